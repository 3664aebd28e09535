/- What the laws need. No condition but those that each lemma states. -/
import Derived.Test.YtbcoelggdikipaaGreatUw5
import Derived.Test.YtbcoelggdikipaaGreatUw3
import Derived.Test.YtbcoelggdikipaaGreatUw6
import Derived.Test.YtbcoelggdikipaaGreatUw4
import Derived.Test.YtbcoelggdikipaaGreatUw2
set_option maxRecDepth 100000
set_option maxHeartbeats 8000000
set_option linter.unusedSimpArgs false
namespace Go.Proofs.YtbcoelggdikipaaGreat
open Go.RowKit
theorem J8 (t:Tr):∀ (w:World) (ve vk:Value),t.rd w w.heap.size ve vk->t.sz<=900000 ->
  Calls Tryz.prog 72 #[.agg #[ve,vk]] w (RetTU w t):=by
 induction t using Tr.ind with
 |h es ks ih=>
 intro w ve vk h hN
 rw[QA]at h
 rw[Tr.sz]at hN
 have hkl:=JG ks
 have HE:=hid h.1
 obtain⟨⟨A1,n,rfl,_⟩,⟨A2,m,rfl,c1,c2,c3⟩⟩:=h
 unfold Big at c2
 have hb0:Below w.heap.size w ((w.alloc (.cells #[.slice A1 es.length n,.slice A2 ks.length m] 25)).alloc (.cells #[.slice none 0 0,.slice none 0 0] 25)):=((Below.refl _ w).alloc (Nat.le_refl _) _).alloc (by simp) _
 go_enter Tryz.func72,Tryz.ntmps72
 go_wp2_with fail
 refine (qJp es _ _ (HE.out.imp hb0 hb0.size fun _ _ _ h=>h) (by unfold Few;omega)).mono ?_
 rintro e w1 ⟨v1,rfl,ho1,hb1⟩
 obtain⟨Ae,ce,rfl⟩:=OwnP.shape ho1
 have hs1:=hb1.size
 simp only[World.size_alloc]at hs1
 have hB1:Below w.heap.size w w1:=hb0.trans (hb1.mono (by simp;omega))
 have hg1:w1.heap[w.heap.size+1]?=some (.cells #[.slice none 0 0,.slice none 0 0] 25 (0,0)):=(hb1.block (w.heap.size+1) (by simp)).trans (Qd (by simp))
 have q1:w1.cell? ⟨w.heap.size,1,none⟩=some (.slice A2 ks.length m):=by
  rw[hb1.cell (p:=⟨w.heap.size,1,none⟩) (by simp;omega),World.cell?_alloc_lt _ _ _ (by simp)];simp
 have HG1:=hid hg1
 have HO1:=hid ho1
 have HB1:=hid hb1
 clear hg1 ho1 hb1 hb0
 have hlt0:w.heap.size<w1.heap.size:=by omega
 go_wp2_with fail
 go_loopw [13] (fun i wr=>∃ k:Nat,k<=ks.length/\i=.int .i64 k/\∃ Ak ck,wr.heap[w1.heap.size]?=some (.cells #[.slice Ae es.length ce,.slice Ak (ks.take k).length ck] 25 (0,0)) /\
   OwnD wr (w1.heap.size+1) 96 3 KdU (fun b=>w1.heap.size+1<=b) (.slice Ak (ks.take k).length ck) (ks.take k)/\w1.heap.size+1<=wr.heap.size/\Below w1.heap.size w1 wr) (fun i _=>ks.length-(intOf i).toNat)
 case atStart=>exact⟨0,Nat.zero_le _,rfl,none,0,Qd rfl,OwnP.nil,by simp,(Below.refl _ _).alloc (Nat.le_refl _) _⟩
 case round=>
  obtain⟨k,hk,rfl,Ak,ck,hg,hown,hsz,hb⟩:=hrel
  have hB0:Below w.heap.size w wr:=hB1.trans (hb.mono (by omega))
  have hszk:=hown.lt
  by_cases hlt:k<ks.length
  ·obtain⟨⟨key,t⟩,hx⟩:∃ x,ks[k]?=some x:=⟨_,List.getElem?_eq_getElem hlt⟩
   obtain⟨b,off,rfl,hbB,hc⟩:=c3 (by rintro rfl;simp at hlt)
   obtain⟨cs,⟨ve',vk',rfl,hkb,hrd⟩,_,hu⟩:=hc k _ hx
   obtain⟨A3,n3,A4,n4,rfl,rfl⟩:=Qj hrd
   have hbo:∀ o,wr.cell? ⟨b,o,none⟩=w.cell? ⟨b,o,none⟩:=fun o=>hB0.cell (p:=⟨b,o,none⟩) hbB
   have e0:wr.cell? ⟨b,off+k*3,none⟩=some (.string key):=(hbo _).trans (hu 0 _ rfl)
   have e1:wr.cell? ⟨b,off+k*3+1,none⟩=some (.slice A3 t.es.length n3):=(hbo _).trans (hu 1 _ rfl)
   have e2:wr.cell? ⟨b,off+k*3+2,none⟩=some (.slice A4 t.ks.length n4):=(hbo _).trans (hu 2 _ rfl)
   have hmem:(key,t)∈ks:=List.mem_of_getElem? hx
   have HKB:=hid hkb
   have htz:t.sz<=900000:=by have:=qZc hmem;omega
   have HR:Hid (∀ w',Below w.heap.size w w'->t.rd w' w'.heap.size (.slice A3 t.es.length n3) (.slice A4 t.ks.length n4)):=fun w' hb'=>Qi hb' hb'.size _ _ _ hrd
   have HX:Hid (ks.take (k+1)=ks.take k++[(key,t)]):=by unfold Hid;rw[List.take_add_one,hx];rfl
   have hl1:(ks.take k).length=k:=by simp;omega
   have HL:Hid ((ks.take k).length + [(key,t)].length<=Few):=by unfold Hid Few;rw[hl1];simp;omega
   generalize ks.take k=js at *
   have HIH:=hid (ih key t hmem)
   have c0:wr.cell? ⟨w1.heap.size,1,none⟩=some (.slice Ak js.length ck):=Qa (i:=1) hg
   have hne0:w1.heap.size<wr.heap.size:=by omega
   have hne1:wr.heap.size≠w1.heap.size:=by omega
   have HS:Hid (∀ w',Below (wr.heap.size+1) (wr.alloc (.cells #[.string key,.slice A3 t.es.length n3,.slice A4 t.ks.length n4] 96)) w'->w'.cell? ⟨wr.heap.size,0,none⟩=some (.string key)/\w'.cell? ⟨wr.heap.size,1,none⟩=some (.slice A3 t.es.length n3)/\w'.cell? ⟨wr.heap.size,2,none⟩=some (.slice A4 t.ks.length n4)/\w'.cell? ⟨w1.heap.size,1,none⟩=some (.slice Ak js.length ck)):=fun w' hb'=>by
    refine⟨?_,?_,?_,?_⟩
    ·rw[hb'.cell (p:=⟨wr.heap.size,0,none⟩) (by simp)];simp
    ·rw[hb'.cell (p:=⟨wr.heap.size,1,none⟩) (by simp)];simp
    ·rw[hb'.cell (p:=⟨wr.heap.size,2,none⟩) (by simp)];simp
    ·rw[hb'.cell (p:=⟨w1.heap.size,1,none⟩) (by show w1.heap.size<_;omega),World.cell?_alloc_lt _ _ _ hne0];exact c0
   have HOWN:Hid (∀ W,Below wr.heap.size wr W->OwnD W (w1.heap.size+1) 96 3 KdU (fun b=>w1.heap.size+1<=b) (.slice Ak js.length ck) js):=fun W hW=>hown.grow KdU.mon hW
   have HGW:Hid (∀ W,Below wr.heap.size wr W->W.heap[w1.heap.size]?=some (.cells #[.slice Ae es.length ce,.slice Ak js.length ck] 25 (0,0))):=fun W hW=>(hW.block _ hne0).trans hg
   have hWK:Hid (∀ W,Below (wr.heap.size+1) (wr.alloc (.cells #[.string key,.slice A3 t.es.length n3,.slice A4 t.ks.length n4] 96)) W->Below wr.heap.size wr W):=fun W hW=>((Below.refl _ wr).alloc (Nat.le_refl _) _).trans (hW.mono (by omega))
   have hw1:w1.heap.size<w1.heap.size+1:=by omega
   have HRW:=hid (HR.out _ (hB0.trans ((hWK.out _ ((Below.refl (wr.heap.size+1) (wr.alloc (.cells #[.string key,.slice A3 t.es.length n3,.slice A4 t.ks.length n4] 96))).drew)).mono (by omega))))
   clear hu hbo hx hc c3 hrd hkb hmem ih hg hown hl1
   go_upto_region 5 with (fail)
   obtain⟨z0,z1,z2,z3⟩:=HS.out _ (Below.refl _ _)
   obtain⟨y0,y1,y2,y3⟩:=HS.out _ ((Below.refl (wr.heap.size+1) (wr.alloc (.cells #[.string key,.slice A3 t.es.length n3,.slice A4 t.ks.length n4] 96))).drew)
   go_region_law
    (first
        |(go_simp;go_at_call 72;go_loud ((refine (HIH.out _ _ _ HRW.out htz).mono ?_);rintro e w3 ⟨ve3,vk3,rfl,hrd,hb3⟩;obtain⟨Av,nv,Aw,nw,rfl,rfl⟩:=QY hrd;have hb3':=hid (((Below.refl (wr.heap.size+1) (wr.alloc (.cells #[.string key,.slice A3 t.es.length n3,.slice A4 t.ks.length n4] 96))).drew).trans (hb3.mono (by simp)));have hs3:=hb3'.out.size;simp only[World.size_alloc]at hs3;obtain⟨p0,p1,p2,p3⟩:=HS.out w3 hb3'.out;have a0:=fun (o:Obj)=>(HS.out (w3.alloc o) (hb3'.out.alloc (by omega) o)).1;have a1:=fun (o:Obj)=>(HS.out (w3.alloc o) (hb3'.out.alloc (by omega) o)).2.1; have a2:=fun (o:Obj)=>(HS.out (w3.alloc o) (hb3'.out.alloc (by omega) o)).2.2.1;have a3:=fun (o:Obj)=>(HS.out (w3.alloc o) (hb3'.out.alloc (by omega) o)).2.2.2))
        |(have hQ3:=hb3';go_loud ((refine YA (v:=.slice Ak js.length ck) rfl (.tmp 18) (.tmp 25) _ rfl KdU.mon eiKid (by decide) (by decide) rfl (HOWN.out _ (hWK.out _ (hb3'.out.alloc (by omega) _))) rfl (qX8 hrd HKB.out (fun b hb=>⟨hb.2,by have:=hb.1;simp only[World.size_drew,World.size_alloc]at *;omega,by rw[World.size_alloc];have:=hb.2;omega,fun e=>by have:=hszk b e;have:=hb.1;simp only[World.size_drew,World.size_alloc]at *;omega⟩) _ (by rw[World.size_alloc];omega)) HL.out (by rw[World.size_alloc];omega) ?_);intro v1 w4 hown4 hb4 _ _;have hsh4:∃ A c,v1=.slice A (js++[(key,t)]).length c:=OwnP.shape hown4;obtain⟨A1,c1,hv1⟩:=hsh4;subst hv1;have hg34:=hid ((hb4.block _ hw1).trans (HGW.out _ (hWK.out _ (hb3'.out.alloc (by omega) _))));have hc4:w4.cell? ⟨w1.heap.size,1,none⟩=some (.slice Ak js.length ck):=Qa (i:=1) hg34.out;have hf4:=Qb (i:=1) hg34.out)))
   all_goals go_wp2_with fail
   all_goals (
    have hW:=hWK.out _ (hb3'.out.alloc (by omega) (.cells #[.string key,.slice Av t.es.length nv,.slice Aw t.ks.length nw] 96))
    have hz4:=hb4.size
    rw[World.size_alloc]at hz4
    refine⟨⟨k+1,by omega,by go_num,A1,c1,?_,?_,?_,?_⟩,by simp[intOf];omega⟩
    ·rw[HX.out];simpa using Qe (i:=1) hg34.out (.slice A1 (js.length+1) c1)
    ·rw[HX.out];exact OwnD.setOther hown4 KdU.mon hw1 (by simp) _
    ·simp[World.setCell];omega
    ·exact ((hb.trans (hW.mono (by omega))).trans (hb4.mono (by omega))).setCell (by simp) _)
  ·obtain rfl:k=ks.length:=by omega
   rw[List.take_of_length_le (Nat.le_refl _)]at hg hown hszk
   have c0:wr.cell? ⟨w1.heap.size,0,none⟩=some (.slice Ae es.length ce):=Qa (i:=0) hg
   have c1:wr.cell? ⟨w1.heap.size,1,none⟩=some (.slice Ak ks.length ck):=Qa (i:=1) hg
   have hg2:wr.heap[w.heap.size+1]?=some (.cells #[.slice none 0 0,.slice none 0 0] 25 (0,0)):=(hb.block _ (by omega)).trans HG1.out
   have d0:wr.cell? ⟨w.heap.size+1,0,none⟩=some (.slice none 0 0):=Qa (i:=0) hg2
   have d1:wr.cell? ⟨w.heap.size+1,1,none⟩=some (.slice none 0 0):=Qa (i:=1) hg2
   have z0:=Qb (i:=0) hg2
   have z1:=Qb (i:=1) hg2
   go_wp2_with fail
   have hW0:=Qe (i:=1) (Qe (i:=0) hg2 (.slice Ae es.length ce)) (.slice Ak ks.length ck)
   have hKW:∀ b,w.heap.size+2<=b->((wr.setCell ⟨w.heap.size+1,0,none⟩ (.slice Ae es.length ce)).setCell ⟨w.heap.size+1,1,none⟩ (.slice Ak ks.length ck)).heap[b]?=wr.heap[b]?:=fun b hb=>(Below.heap_setCell _ _ _ _ (by simp;omega)).trans (Below.heap_setCell _ _ _ _ (by simp;omega))
   have hSW:((wr.setCell ⟨w.heap.size+1,0,none⟩ (.slice Ae es.length ce)).setCell ⟨w.heap.size+1,1,none⟩ (.slice Ak ks.length ck)).heap.size=wr.heap.size:=by simp[World.setCell]
   have hBW:Below w.heap.size w ((wr.setCell ⟨w.heap.size+1,0,none⟩ (.slice Ae es.length ce)).setCell ⟨w.heap.size+1,1,none⟩ (.slice Ak ks.length ck)):=(hB0.setCell (by simp) _).setCell (by simp) _
   clear c0 c1 d0 d1 z0 z1
   generalize ((wr.setCell ⟨w.heap.size+1,0,none⟩ (.slice Ae es.length ce)).setCell ⟨w.heap.size+1,1,none⟩ (.slice Ak ks.length ck))=W at *
   have r0:W.cell? ⟨w.heap.size+1,0,none⟩=some (.slice Ae es.length ce):=(Qa (i:=0) hW0).trans (by simp)
   have r1:W.cell? ⟨w.heap.size+1,1,none⟩=some (.slice Ak ks.length ck):=(Qa (i:=1) hW0).trans (by simp)
   refine bodyPost_ret (v:=.agg #[.slice Ae es.length ce,.slice Ak ks.length ck]) (by simp[results,Tryz.results72,go_sem,r0,r1]) rfl ⟨_,_,rfl,?_,hBW⟩
   rw[qVi]
   refine⟨(HO1.out.slu (by unfold Big;omega)).up (fun b hb'=>(hKW b (by have:=hb'.1;simp only[World.size_alloc]at this;omega)).trans (hb.block b hb'.2.1)) (fun b hb'=>⟨by have:=hb'.1;simp only[World.size_alloc]at this;omega,by have:=hb'.2.1;omega⟩) (fun _ _ _ h=>h),(OwnP.slu hown (by unfold Big;omega)).up (fun b hb'=>hKW b (by have:=hb'.1;omega)) (fun b hb'=>⟨by have:=hb'.1;omega,by have:=hb'.2.1;omega⟩) ?_⟩
   intro x _ cs hx
   exact KdU.mon.up (fun b hb'=>hKW b (by have:=hb'.1;omega)) (fun b hb'=>⟨by have:=hb'.1;omega,by have:=hb'.2.1;omega⟩) hx
theorem Ja (t:Tr)(w:World)(ve vk:Value)(h:t.rd w w.heap.size ve vk)(hN:t.sz<=900000) :
  Calls Tryz.prog 72 #[.agg #[ve,vk]] w (RetT w t):=(J8 t w ve vk h hN).mono fun _ _ h=>h.dn
theorem qJr (key x:ByteArray)(A A':Option Addr)(n c n' c':Nat)(B:Nat)(w:World)(hc:w.cell? ⟨B,0,none⟩=some (.string key))(hB:B<w.heap.size) :
  Calls Tryz.prog 128 #[.agg #[.string x,.slice A n c,.slice A' n' c'],.pointer (some ⟨B,0,none⟩)] w fun e w'=>e=.returned (.bool (decide (x=key)))/\Below w.heap.size w w':=by
 have hne:B≠w.heap.size:=by omega
 have HE:Hid ((x.toList==key.toList)=decide (x=key)):=by
  unfold Hid;rw[Bool.eq_iff_iff];simp[QM]
 go_enter Tryz.func128,Tryz.ntmps128
 go_wp2_with fail
 go_ret
 exact⟨Qf HE.out,by go_grown⟩
theorem zXd {key:ByteArray}{B:Nat}{w:World}(hc:w.cell? ⟨B,0,none⟩=some (.string key))(hB:B<w.heap.size):JU 128 #[.pointer (some ⟨B,0,none⟩)] (fun x=>decide (x=key)) w:=
 ⟨enters_of Tryz.func128 (by kernel_rfl) rfl,fun x A A' n c n' c' W _ hW=>qJr key x A A' n c n' c' B W ((hW.cell (p:=⟨B,0,none⟩) hB).trans hc) (by have:=hW.size;omega)⟩
theorem zXe (t:Tr)(s:ByteArray):(idxI (fun y:Kd=>decide (y.1=s)) t.ks=-1/\kidT t s=.mk [] [])∨∃ (k:Nat) (u:Tr),idxI (fun y:Kd=>decide (y.1=s)) t.ks=(k:Int)/\t.ks[k]?=some (s,u)/\kidT t s=u:=by
 unfold idxI kidT
 cases h:t.ks.findIdx? fun y=>decide (y.1=s) with
 |none=>
  rw[List.findIdx?_eq_none_iff]at h
  exact .inl ⟨rfl,by rw[List.find?_eq_none.2 fun x hx=>by simpa using h x hx]⟩
 |some i=>
  rw[List.findIdx?_eq_some_iff_getElem]at h
  obtain⟨hlt,hp,hm⟩:=h
  have hf:t.ks.find? (fun x=>decide (x.1=s))=some t.ks[i]:=by
   rw[List.find?_eq_some_iff_getElem]
   exact⟨hp,i,hlt,rfl,fun j hj=>by simpa using hm j hj⟩
  refine .inr ⟨i,t.ks[i].2,rfl,?_,by rw[hf]⟩
  rw[List.getElem?_eq_getElem hlt]
  have:t.ks[i].1=s:=by simpa using hp
  rw[←this]
theorem qX9:∀ p:List ByteArray,getK (.mk [] []) p=.mk [] []
 |[]=>rfl
 |s :: p=>by
  show getK (kidT (.mk [] []) s) p=_
  rw[show kidT (.mk [] []) s=.mk [] [] from rfl];exact qX9 p
def tgetT (t:Tr)(p:List ByteArray):Tr:=if t.right 5 then getK t p else .mk [] []
theorem Xy {t:Tr}{w:World}{B:Nat}{ve vk:Value}(h:t.rd w B ve vk):SlP w B 3 (KdE w B) vk t.ks:=by
 obtain⟨es,ks⟩:=t;exact (QA.1 h).2
theorem Xz (t:Tr)(p:List ByteArray)(ve vk vp:Value)(w:World)(h:t.rd w w.heap.size ve vk)(hp:SlP w w.heap.size 1 StE vp p)(hN:t.sz<=900000) :
  Calls Tryz.prog 83 #[.agg #[ve,vk],vp] w (RetT w (tgetT t p)):=by
 have HC:Hid (∀ w',Below w.heap.size w w'->t.rd w' w'.heap.size ve vk):=fun w' hb=>Qi hb hb.size _ _ _ h
 have HD:=hid h
 obtain⟨A3,n3,A4,n4,rfl,rfl⟩:=Qj h
 obtain⟨Ap,cp,rfl,p1,p2,p3⟩:=hp
 unfold Big at p2
 have hb0:Below w.heap.size w ((w.alloc (.cells #[.slice A3 t.es.length n3,.slice A4 t.ks.length n4] 25)).alloc (.cells #[.slice none 0 0,.slice none 0 0] 25)):=((Below.refl _ w).alloc (Nat.le_refl _) _).alloc (by simp) _
 have HW:Hid (∀ w',Below (w.heap.size+2) ((w.alloc (.cells #[.slice A3 t.es.length n3,.slice A4 t.ks.length n4] 25)).alloc (.cells #[.slice none 0 0,.slice none 0 0] 25)) w'->Below w.heap.size w w'/\w.heap.size+2<=w'.heap.size/\w'.heap[w.heap.size]?=some (.cells #[.slice A3 t.es.length n3,.slice A4 t.ks.length n4] 25 (0,0))/\w'.heap[w.heap.size+1]?=some (.cells #[.slice none 0 0,.slice none 0 0] 25 (0,0))):=fun w' hb=>by
  have hB:Below w.heap.size w w':=hb0.trans (hb.mono (by omega))
  exact⟨hB,by have:=hb.size;simpa using this,(hb.block _ (by omega)).trans ((Qg (by simp)).trans (Qd rfl)),(hb.block _ (by omega)).trans (Qd (by simp))⟩
 clear h
 go_enter Tryz.func83,Tryz.ntmps83
 go_wp2_with fail
 refine (QG t _ _ _ (HC.out _ hb0)).mono ?_
 rintro e w1 ⟨rfl,hb1⟩
 obtain⟨hB1,hs1,g2,g4⟩:=HW.out _ (hb1.mono (show w.heap.size+2<=_ by simp))
 have HG2:=hid g2
 have HG4:=hid g4
 have k0:w1.cell? ⟨w.heap.size+1,0,none⟩=some (.slice none 0 0):=Qa (i:=0) g4
 have k1:w1.cell? ⟨w.heap.size+1,1,none⟩=some (.slice none 0 0):=Qa (i:=1) g4
 have z0:=Qb (i:=0) g4
 have z1:=Qb (i:=1) g4
 clear hb1 g2 g4
 cases hr:t.right 5
 ·have HTT:Hid (tgetT t p=.mk [] []):=by unfold Hid tgetT;rw[hr];rfl
  clear hr
  go_wp2_with fail
  have hW0:=Qe (i:=1) (Qe (i:=0) HG4.out (.slice none 0 0)) (.slice none 0 0)
  have r0:=(Qa (i:=0) hW0).trans (show _=some (.slice none 0 0) by simp)
  have r1:=(Qa (i:=1) hW0).trans (show _=some (.slice none 0 0) by simp)
  refine bodyPost_ret (v:=.agg #[.slice none 0 0,.slice none 0 0]) (by simp[results,Tryz.results83,go_sem,r0,r1]) rfl ⟨_,_,rfl,by rw[HTT.out];exact Qp _ _,((hB1).setCell (by simp) _).setCell (by simp) _⟩
 have HTT0:Hid (tgetT t p=getK t p):=by unfold Hid tgetT;rw[hr];rfl
 clear hr k0 k1 z0 z1
 go_wp2_with fail
 go_loopw [14] (fun i wr=>∃ (k:Nat) (u:Tr) (Ae:Option Addr) (ne:Nat) (Ak:Option Addr) (nk:Nat),k<=p.length/\i=.int .i64 k/\Hid (u.rd w w.heap.size (.slice Ae u.es.length ne) (.slice Ak u.ks.length nk))/\u.sz<=900000/\Hid (getK u (p.drop k)=getK t p)/\Hid (wr.heap[w.heap.size]?=some (.cells #[.slice Ae u.es.length ne,.slice Ak u.ks.length nk] 25 (0,0)))/\Hid (wr.heap[w.heap.size+1]?=some (.cells #[.slice none 0 0,.slice none 0 0] 25 (0,0)))/\w.heap.size+2<=wr.heap.size/\Below w.heap.size w wr) (fun i _=>p.length-(intOf i).toNat)
 case atStart=>exact⟨0,t,A3,n3,A4,n4,Nat.zero_le _,rfl,HD,hN,rfl,HG2,HG4,hs1,hB1⟩
 case round=>
  clear HG2 HG4 hs1 hB1
  obtain⟨k,u,Ae,ne,Ak,nk,hk,rfl,HRD,husz,HK,HG2,HG4,hsw,hB⟩:=hrel
  have c0:wr.cell? ⟨w.heap.size,0,none⟩=some (.slice Ae u.es.length ne):=Qa (i:=0) HG2.out
  have c1:wr.cell? ⟨w.heap.size,1,none⟩=some (.slice Ak u.ks.length nk):=Qa (i:=1) HG2.out
  by_cases hlt:k<p.length
  ·obtain⟨x,hx⟩:∃ x,p[k]?=some x:=⟨_,List.getElem?_eq_getElem hlt⟩
   obtain⟨b,off,rfl,hbB,hc⟩:=p3 (by rintro rfl;simp at hlt)
   obtain⟨cs,⟨rfl,hok⟩,_,hu⟩:=hc k _ hx
   have e0:wr.cell? ⟨b,off+k,none⟩=some (.string x):=(hB.cell (p:=⟨b,off+k,none⟩) hbB).trans (by simpa using hu 0 _ rfl)
   have HX:Hid (getK (kidT u x) (p.drop (k+1))=getK t p):=by unfold Hid;rw[←HK.out,QJ hx];rfl
   have hne:w.heap.size≠wr.heap.size:=by omega
   have hlt0:w.heap.size<wr.heap.size:=by omega
   clear hu hc p3 hx HK
   go_wp2_with fail
   refine (KN (fun y=>decide (y=x)) _ _ u.ks _ _ (Xy (Qi (hB.alloc (by omega) (.cells #[.string x] 9)) (hB.alloc (by omega) (.cells #[.string x] 9)).size u _ _ HRD.out)) (zXd (key:=x) (B:=wr.heap.size) (by simp) (by simp))).mono ?_
   rintro e w1 ⟨rfl,hb1⟩
   have hs1:=hb1.size
   simp only[World.size_alloc]at hs1
   have hB1:Below w.heap.size w w1:=(hB.alloc (by omega) _).trans (hb1.mono (by rw[World.size_alloc];omega))
   have HG2':=hid ((hb1.block w.heap.size (by rw[World.size_alloc];omega)).trans ((Qg (by omega)).trans HG2.out))
   have HG4':=hid ((hb1.block (w.heap.size+1) (by rw[World.size_alloc];omega)).trans ((Qg (by omega)).trans HG4.out))
   clear hb1 c0 c1 e0 HG2 HG4
   have c0:w1.cell? ⟨w.heap.size,0,none⟩=some (.slice Ae u.es.length ne):=Qa (i:=0) HG2'.out
   have c1:w1.cell? ⟨w.heap.size,1,none⟩=some (.slice Ak u.ks.length nk):=Qa (i:=1) HG2'.out
   have k0:w1.cell? ⟨w.heap.size+1,0,none⟩=some (.slice none 0 0):=Qa (i:=0) HG4'.out
   have k1:w1.cell? ⟨w.heap.size+1,1,none⟩=some (.slice none 0 0):=Qa (i:=1) HG4'.out
   have y0:=Qb (i:=0) HG2'.out
   have y1:=Qb (i:=1) HG2'.out
   have z0:=Qb (i:=0) HG4'.out
   have z1:=Qb (i:=1) HG4'.out
   rcases zXe u x with⟨hi,hkn⟩|⟨j,v,hi,hj,hkv⟩
   ·have HTT:Hid (tgetT t p=.mk [] []):=by unfold Hid;rw[HTT0.out,←HX.out,hkn,qX9]
    have HG4:=HG4'
    rw[hi]
    clear hi hkn y0 y1
    go_wp2_with fail
    have hW0:=Qe (i:=1) (Qe (i:=0) HG4.out (.slice none 0 0)) (.slice none 0 0)
    have r0:=(Qa (i:=0) hW0).trans (show _=some (.slice none 0 0) by simp)
    have r1:=(Qa (i:=1) hW0).trans (show _=some (.slice none 0 0) by simp)
    refine bodyPost_ret (v:=.agg #[.slice none 0 0,.slice none 0 0]) (by simp[results,Tryz.results83,go_sem,r0,r1]) rfl ⟨_,_,rfl,by rw[HTT.out];exact Qp _ _,((hB1).setCell (by simp) _).setCell (by simp) _⟩
   ·rw[hi]
    have hjl:j<u.ks.length:=(List.getElem?_eq_some_iff.1 hj).1
    have hmem:=List.mem_of_getElem? hj
    have hvs:v.sz<=900000:=by
     have h1:=YE u x
     rw[hkv]at h1;omega
    have hkl:u.ks.length<=140737488355328:=by
     have h1:=HRD.out;obtain⟨es,ks⟩:=u;obtain⟨_,_,_,_,h2,_⟩:=(QA.1 h1).2;exact h2
    obtain⟨b',off',rfl,hbB',vAe,vne,vAk,vnk,HRV,q1,q2⟩:∃ b' off',Ak=some ⟨b',off',none⟩/\b'<w.heap.size/\∃ vAe vne vAk vnk,Hid (v.rd w w.heap.size (.slice vAe v.es.length vne) (.slice vAk v.ks.length vnk))/\w1.cell? ⟨b',off'+j*3+1,none⟩=some (.slice vAe v.es.length vne)/\w1.cell? ⟨b',off'+j*3+2,none⟩=some (.slice vAk v.ks.length vnk):=by
     have h1:=HRD.out
     obtain⟨es,ks⟩:=u
     obtain⟨Ak',ck',he,_,_,h3⟩:=(QA.1 h1).2
     cases he
     obtain⟨b',off',rfl,hbB',hc'⟩:=h3 (by rintro rfl;simp[Tr.ks]at hjl)
     obtain⟨cs,⟨ve',vk',rfl,_,hrd'⟩,_,hu'⟩:=hc' j _ hj
     obtain⟨vAe,vne,vAk,vnk,rfl,rfl⟩:=Qj hrd'
     exact⟨b',off',rfl,hbB',vAe,vne,vAk,vnk,hrd',(hB1.cell (p:=⟨b',off'+j*3+1,none⟩) hbB').trans (hu' 1 _ rfl),(hB1.cell (p:=⟨b',off'+j*3+2,none⟩) hbB').trans (hu' 2 _ rfl)⟩
    have HKV:=hid hkv
    clear hi hj hmem hkv k0 k1 z0 z1
    go_wp2_with fail
    go_roundw
    case rel=>exact⟨k+1,v,vAe,vne,vAk,vnk,by omega,by go_num,HRV,hvs,by unfold Hid;rw[←HX.out,HKV.out],hid (by simpa using Qe (i:=1) (Qe (i:=0) HG2'.out (.slice vAe v.es.length vne)) (.slice vAk v.ks.length vnk)),hid ((Below.heap_setCell _ _ _ _ (by simp)).trans ((Below.heap_setCell _ _ _ _ (by simp)).trans HG4'.out)),by simp;omega,(hB1.setCell (by simp) _).setCell (by simp) _⟩
    case measure=>simp[intOf];omega
  ·obtain rfl:k=p.length:=by omega
   have HU:Hid (tgetT t p=u):=by
    have:=HK.out
    rw[List.drop_of_length_le (Nat.le_refl _)]at this
    unfold Hid;rw[HTT0.out,←this];rfl
   clear p3 HK
   go_wp2_with fail
   refine (Ja u wr _ _ (Qi hB hB.size _ _ _ HRD.out) husz).mono ?_
   rintro e w2 ⟨ve2,vk2,rfl,hrd,hb2⟩
   obtain⟨Av,nv,Aw,nw,rfl,rfl⟩:=Ql hrd
   have hs2:=hb2.size
   have hB2:Below w.heap.size w w2:=hB.trans (hb2.mono (by omega))
   have HG4':=hid ((hb2.block (w.heap.size+1) (by omega)).trans HG4.out)
   have HRU:=hid hrd
   clear hb2 c0 c1 HG2 HG4 hrd
   have k0:w2.cell? ⟨w.heap.size+1,0,none⟩=some (.slice none 0 0):=Qa (i:=0) HG4'.out
   have k1:w2.cell? ⟨w.heap.size+1,1,none⟩=some (.slice none 0 0):=Qa (i:=1) HG4'.out
   have z0:=Qb (i:=0) HG4'.out
   have z1:=Qb (i:=1) HG4'.out
   go_wp2_with fail
   obtain⟨r0,r1,hrW,hsW⟩:=ZZ HG4'.out HRU.out (fun b hb=>by have:=hb.1;omega)
   refine bodyPost_ret (v:=.agg #[.slice Av u.es.length nv,.slice Aw u.ks.length nw]) (by simp[results,Tryz.results83,go_sem,r0,r1]) rfl ⟨_,_,rfl,?_,(hB2.setCell (by simp) _).setCell (by simp) _⟩
   rw[HU.out]
   exact Qs (fun _ _=>rfl) (fun b hb=>⟨by have:=hb.1;omega,by rw[hsW];exact hb.2⟩) _ _ _ hrW
end Go.Proofs.YtbcoelggdikipaaGreat
namespace Go.Proofs.YtbcoelggdikipaaGreat
open Go.RowKit Go.Sort
def cmpR (x y:Int×Int):Int:=cmpI x.1 y.1
theorem qZo (x y:Int×Int):ltOf cmpR x y=decide (x.1<y.1):=Jv x.1 y.1
theorem swoR:SWO (ltOf cmpR) where
 irrefl x:=by rw[qZo];simp
 trans x y z h1 h2:=by rw[qZo]at *;simp at *;omega
 ntrans x y z h1 h2:=by rw[qZo]at *;simp at *;omega
theorem V9 (x y:Int×Int)(W:World):Calls Tryz.prog 184 #[.agg #[.int .i64 x.1,.int .i64 x.2],.agg #[.int .i64 y.1,.int .i64 y.2]] W fun e w'=>e=.returned (.int .i64 (cmpR x y))/\∃ q os',w'=grow (W.drewN q) os':=by
 go_enter Tryz.func184,Tryz.ntmps184
 go_wp2_with (go_at_call 185;refine (Xi _ _ _).mono ?_;rintro e w' ⟨rfl,rfl⟩)
 go_ret
 exact⟨rfl,0,_,by rw[alloc_eq_grow,alloc_eq_grow,grow_grow];rfl⟩
theorem qVk {l:List (Int×Int)}(h:∀ r∈l,runOk r):Zg l:=fun r hr=>by
 have:=h r hr;unfold runOk at this;omega
theorem Zc:∀ (l:List (Int×Int)) (p:Option Int),runsR p l=true->∀ r∈l,runOk r
 |x :: l,p,h,r,hr=>by
  rw[Qo]at h
  rcases List.mem_cons.1 hr with rfl|hr
  ·exact h.1
  ·exact Zc l _ h.2.2 r hr
theorem KZ {a b ts:List (Int×Int)}(ha:runsR none a=true)(hb:runsR none b=true)(hp:ts.Perm (a++b))(hs:ts.Pairwise fun x y=>x.1<=y.1):joinL ts=byL a b 0:=by
 have oa:=Zc a none ha
 have ob:=Zc b none hb
 have ot:∀ r∈ts,runOk r:=fun r hr=>by
  rcases List.mem_append.1 (hp.subset hr) with h|h
  ·exact oa r h
  ·exact ob r h
 obtain⟨a1,a2⟩:=J3 ot hs
 obtain⟨b1,b2⟩:=Yi 0 oa ob
 refine YF _ _ none none a1 b1 fun n=>?_
 rw[a2,b2]
 have:hasL ts n=hasL (a++b) n:=by
  unfold hasL
  rw[Bool.eq_iff_iff,List.any_eq_true,List.any_eq_true]
  exact⟨fun ⟨r,h1,h2⟩=>⟨r,hp.subset h1,h2⟩,fun ⟨r,h1,h2⟩=>⟨r,hp.symm.subset h1,h2⟩⟩
 rw[this,Z0]
 simp[inn]
theorem J9 (a b:List (Int×Int))(va vb:Value)(w:World)(ha:SlP w w.heap.size 2 RuE va a)(hb:SlP w w.heap.size 2 RuE vb b) :
  Calls Tryz.prog 135 #[va,vb] w fun e w'=>e=.returned (.bool (runsR none a&&runsR none b))/\Below w.heap.size w w':=by
 have HB:=hid hb
 go_enter Tryz.func135,Tryz.ntmps135
 go_wp2_with fail
 refine (Yh a va w ha).mono ?_
 rintro e w1 ⟨rfl,hb1⟩
 have hs1:=hb1.size
 cases hr:runsR none a
 ·have HR:=hid hr
  clear hr
  go_wp2_with fail
  go_ret
  exact⟨Qf (by rw[HR.out];rfl),hb1⟩
 ·have HR:=hid hr
  clear hr
  go_wp2_with fail
  refine (Yh b vb w1 (HB.out.imp hb1 hs1 fun _ _ _ h=>h)).mono ?_
  rintro e w2 ⟨rfl,hb2⟩
  go_wp2_with fail
  go_ret
  exact⟨Qf (by rw[HR.out];rfl),hb1.trans (hb2.mono hs1)⟩
theorem qJs (a b:List (Int×Int))(va vb:Value)(w:World)(ha:SlP w w.heap.size 2 RuE va a)(hb:SlP w w.heap.size 2 RuE vb b)(hra:runsR none a=true)(hrb:runsR none b=true)(hN:a.length<=300000)(hN':b.length<=300000) :
  Calls Tryz.prog 157 #[va,vb] w (RetO w 167 2 (fun _=>RuE) (byL a b 0)):=by
 have HA:=hid ha
 have HB:=hid hb
 have HRA:=hid hra
 have HRB:=hid hrb
 have hor:Zg (a++b):=qVk fun r hr=>by
  rcases List.mem_append.1 hr with h|h
  ·exact Zc a none hra r h
  ·exact Zc b none hrb r h
 have HOR:=hid hor
 obtain⟨A1,c1,rfl,_⟩:=ha
 obtain⟨A2,c2,rfl,_⟩:=hb
 clear hra hrb hor
 go_enter Tryz.func157,Tryz.ntmps157
 go_wp2_with fail
 refine (J9 a b _ _ w HA.out HB.out).mono ?_
 rw[HRA.out,HRB.out]
 rintro e w1 ⟨rfl,hb1⟩
 have hs1:=hb1.size
 go_wp2_with fail
 refine (qJo a b (.slice A1 a.length c1) (.slice A2 b.length c2) w1.heap.size _ (by simp) (by simp) (by simp) (HA.out.imp (hb1.alloc hs1 _) (by simp;omega) fun _ _ _ h=>h) (HB.out.imp (hb1.alloc hs1 _) (by simp;omega) fun _ _ _ h=>h) hN hN').mono ?_
 rintro e w2 ⟨v2,rfl,ho2,hb2⟩
 have hs2:=hb2.size
 simp only[World.size_alloc]at hs2
 have hB2:Below w.heap.size w w2:=(hb1.alloc hs1 _).trans (hb2.mono (by simp;omega))
 have ho2':OwnP w2 (w1.heap.size+1) 167 2 RuE v2 ((a++b).map id):=by rw[List.map_id];exact ho2.mono (by simp)
 go_wp2_with fail
 refine (JZ id cmpR swoR 184 (enters_of Tryz.func184 (by kernel_rfl) rfl) (fun x y W=>V9 x y W) (a++b) v2 w2 _ ho2' (by simp;omega) hs2).mono ?_
 rintro e w3 ⟨rfl,ts,hp,hs,ho3,hb3⟩
 rw[List.map_id]at ho3
 have hs3:=hb3.size
 have hJ:=KZ HRA.out HRB.out hp (hs.imp fun h=>(J5 _ _).1 h)
 have HJ:=hid hJ
 have hlen:ts.length=a.length+b.length:=by rw[hp.length_eq,List.length_append]
 have hsl:=ho3.sl (by rw[hlen];unfold Big;omega)
 have HSL:=hid hsl
 have HTR:Hid (Zg ts):=fun r hr=>HOR.out r (hp.subset hr)
 have hl3:ts.length<=900000:=by omega
 clear hp hs ho3 hJ hsl ho2 ho2' hlen
 go_wp2_with fail
 refine (J4 ts _ w3 HSL.out hl3 HTR.out).mono ?_
 rintro e w4 ⟨v4,rfl,ho4,hb4⟩
 rw[HJ.out]at ho4
 go_wp2_with fail
 go_ret
 exact⟨_,rfl,ho4.mono (by omega),(hB2.trans (hb3.mono (by omega))).trans (hb4.mono (by omega))⟩
end Go.Proofs.YtbcoelggdikipaaGreat
namespace Go.Proofs.YtbcoelggdikipaaGreat
open Go.RowKit
def Vy (g:Nat)(how:Int):Prop:=
 (∀ args W,(callFunc g args).run Tryz.prog W=.ok (.enter g args) W) /\
 ∀ (a b:List (Int×Int)) (va vb:Value) (W:World),SlP W W.heap.size 2 RuE va a->SlP W W.heap.size 2 RuE vb b->runsR none a=true->runsR none b=true->a.length<=100000->b.length<=100000 ->
  Calls Tryz.prog g #[va,vb] W (RetO W 167 2 (fun _=>RuE) (byL a b how))
def ByA (a b:List Sp)(how:Int)(vs us:Nat->Value)(w1 w2:World)(k:Nat)(wr:World):Prop:=
 ∃ ps:Nat->Value,wr.heap[w1.heap.size]?=some (.cells #[ps 0,ps 1,ps 2,ps 3] 162 (0,0))/\wr.heap[w2.heap.size]?=some (.cells #[us 0,us 1,us 2,us 3] 162 (0,0)) /\
  (∀ j,j<k->OwnP wr (w2.heap.size+1) 167 2 RuE (ps j) (byL (partL a (j:Int)) (partL b (j:Int)) how))/\(∀ j,k<=j->ps j=vs j)/\(∀ blk,w1.heap.size<blk->blk<w2.heap.size->wr.heap[blk]?=w2.heap[blk]?)/\Below w1.heap.size w1 wr
theorem qZp (a b:List Sp)(how:Int)(g:Nat)(hf:Vy g how)(va vb:Value)(w:World)(ha:SlP w w.heap.size 3 SpE va a)(hb:SlP w w.heap.size 3 SpE vb b)(hra:Qm a=true)(hrb:Qm b=true)(hN:a.length<=20000)(hN':b.length<=20000) :
  Calls Tryz.prog 93 #[va,vb,.func (.func g) #[] #[]] w (RetO w 45 3 (fun _=>SpE) (ctxBy a b how)):=by
 obtain⟨eg,hf⟩:=hf
 have HA:=hid ha
 have HB:=hid hb
 obtain⟨A1,c1,rfl,_⟩:=ha
 obtain⟨A2,c2,rfl,_⟩:=hb
 go_enter Tryz.func93,Tryz.ntmps93
 go_wp2_with fail
 refine (Xv a _ w HA.out (by omega)).mono ?_
 rintro e w1 ⟨vs,rfl,hsl,hb1⟩
 have hs1:=hb1.size
 rw[hra]
 simp only[hra,if_true]at hsl
 obtain⟨B0,m0,g0,_⟩:=hsl 0 (by omega)
 obtain⟨B1,m1,g1,_⟩:=hsl 1 (by omega)
 obtain⟨B2,m2,g2,_⟩:=hsl 2 (by omega)
 obtain⟨B3,m3,g3,_⟩:=hsl 3 (by omega)
 have HVS:=hid (fun i (hi:i<4)=>(hsl i hi).slp (fun b hb=>hb.2) (Below.refl _ w1))
 have G0:=hid g0
 have G1:=hid g1
 have G2:=hid g2
 have G3:=hid g3
 simp only[g0,g1,g2,g3]
 clear hsl g0 g1 g2 g3
 go_wp2_with fail
 refine (Xv b _ _ (HB.out.imp (hb1.alloc hs1 _) (by simp;omega) fun _ _ _ h=>h) (by omega)).mono ?_
 rintro e w2 ⟨us,rfl,hsl,hb2⟩
 have hs2:=hb2.size
 simp only[World.size_alloc]at hs2
 rw[hrb]
 simp only[hrb,if_true]at hsl
 obtain⟨D0,n0,k0,_⟩:=hsl 0 (by omega)
 obtain⟨D1,n1,k1,_⟩:=hsl 1 (by omega)
 obtain⟨D2,n2,k2,_⟩:=hsl 2 (by omega)
 obtain⟨D3,n3,k3,_⟩:=hsl 3 (by omega)
 have HUS:=hid hsl
 have K0:=hid k0
 have K1:=hid k1
 have K2:=hid k2
 have K3:=hid k3
 simp only[k0,k1,k2,k3]
 clear hsl k0 k1 k2 k3
 have hp2:=hid ((hb2.block w1.heap.size (by simp)).trans (Qd rfl))
 have hB2:Below w1.heap.size w1 w2:=((Below.refl _ w1).alloc (Nat.le_refl _) _).trans (hb2.mono (by simp))
 go_wp2_with fail
 go_loopw [28] (fun i wr=>∃ k:Nat,k<=4/\i=.int .i64 k/\ByA a b how vs us w1 w2 k wr) (fun i _=>4-(intOf i).toNat)
 case atStart=>
  refine⟨0,by omega,rfl,vs,?_,?_,fun j hj=>absurd hj (Nat.not_lt_zero _),fun _ _=>rfl,fun blk _ hb=>Qg hb,hB2.alloc (by omega) _⟩
  ·rw[Qg (by omega),G0.out,G1.out,G2.out,G3.out];exact hp2.out
  ·rw[Qd rfl,K0.out,K1.out,K2.out,K3.out];rfl
 case round=>
  obtain⟨k,hk,rfl,ps,hpa,hqa,hpo,hpv,hkp,hbr⟩:=hrel
  have hsz:=hbr.size
  have hp3:w1.heap.size<wr.heap.size:=(Array.getElem?_eq_some_iff.1 hpa).1
  have hq3:w2.heap.size<wr.heap.size:=(Array.getElem?_eq_some_iff.1 hqa).1
  by_cases hk4:k<4
  ·have hki:(k:Int)<4:=by omega
   have hla:=QK a k
   have hlb:=QK b k
   have hq2:w2.heap.size+1<=wr.heap.size:=by omega
   have HSA:Hid (SlP wr.drew wr.drew.heap.size 2 RuE (vs k) (partL a k)):=(HVS.out k hk4).imp hbr.drew hsz fun _ _ _ h=>h
   have HSB:Hid (SlP wr.drew wr.drew.heap.size 2 RuE (us k) (partL b k)):=Z8.2 ((HUS.out k hk4).up (w':=wr.drew) (fun blk hb=>hkp blk (by have:=hb.1;simp only[World.size_alloc]at this;omega) hb.2) (fun blk hb=>by have:=hb.2;show blk<wr.heap.size;omega) (fun _ _ _ h=>h))
   have hcall:=hf (partL a k) (partL b k) (vs k) (us k) wr.drew HSA.out HSB.out (Qw hra hk4) (Qw hrb hk4) (by omega) (by omega)
   have hpc:wr.cell? ⟨w1.heap.size,k,none⟩=some (vs k):=by rw[Qa hpa,ZC ps hk4,hpv k (Nat.le_refl _)]
   have hqc:wr.cell? ⟨w2.heap.size,k,none⟩=some (us k):=(Qa hqa).trans (ZC us hk4)
   have HPA:=hid hpa
   have HQA:=hid hqa
   have HPO:=hid hpo
   have HPV:=hid hpv
   have HKP:=hid hkp
   have HCALL:=hid hcall
   clear hpa hqa hpo hpv hkp hf hcall
   go_wp2_with fail
   refine ZP (S:=fun w'=>w'.cell? ⟨w1.heap.size,k,none⟩=some (vs k)/\w'.cell? ⟨w2.heap.size,k,none⟩=some (us k)) 10 (by kernel_rfl) (by kernel_rfl) ?_
   simp only[List.take_succ_cons,List.take_zero,List.drop_succ_cons,List.drop_zero]
   have hHeld:(fun w':World=>w'.cell? ⟨w1.heap.size,k,none⟩=some (vs k)/\w'.cell? ⟨w2.heap.size,k,none⟩=some (us k)) wr.drew:=by go_keep
   refine wpAnyH_take (i:=0) (oi:=_) (v:=?v0) rfl (by kernel_rfl) (by kernel_rfl) (by kernel_rfl) (fun _ _ _ h=>h) (Or.inl ⟨by rfl,?h0⟩) (by assumption) ?_
   case h0=>(intro w hSw;(try dsimp only at hSw);go_simp;(try with_reducible rfl))
   simp only[Act.put,List.setIfInBounds_toArray]
   refine wpAnyH_take (i:=1) (oi:=_) (v:=?v1) rfl (by kernel_rfl) (by kernel_rfl) (by kernel_rfl) (fun _ _ _ h=>h) (Or.inl ⟨by rfl,?h1⟩) (by assumption) ?_
   case h1=>(intro w hSw;(try dsimp only at hSw);go_simp;(try with_reducible rfl))
   simp only[Act.put,List.setIfInBounds_toArray]
   refine wpAnyH_take (i:=2) (oi:=_) (v:=?v2) rfl (by kernel_rfl) (by kernel_rfl) (by kernel_rfl) (fun _ _ _ h=>h) (Or.inl ⟨by rfl,?h2⟩) (by assumption) ?_
   case h2=>(intro w hSw;(try dsimp only at hSw);go_simp;(try with_reducible rfl))
   simp only[Act.put,List.setIfInBounds_toArray]
   refine wpAnyH_take (i:=3) (oi:=_) (v:=?v3) rfl (by kernel_rfl) (by kernel_rfl) (by kernel_rfl) (fun _ _ _ h=>h) (Or.inl ⟨by rfl,?h3⟩) (by assumption) ?_
   case h3=>(intro w hSw;(try dsimp only at hSw);go_simp;(try with_reducible rfl))
   simp only[Act.put,List.setIfInBounds_toArray]
   refine wpAnyH_take (i:=4) (oi:=_) (v:=?v4) rfl (by kernel_rfl) (by kernel_rfl) (by kernel_rfl) (fun _ _ _ h=>h) (Or.inl ⟨by rfl,?h4⟩) (by assumption) ?_
   case h4=>(intro w hSw;(try dsimp only at hSw);go_simp;(try with_reducible rfl))
   simp only[Act.put,List.setIfInBounds_toArray]
   refine wpAnyH_take (i:=5) (oi:=_) (v:=?v5) rfl (by kernel_rfl) (by kernel_rfl) (by kernel_rfl) (fun _ _ _ h=>h) (Or.inl ⟨by rfl,?h5⟩) (by assumption) ?_
   case h5=>(intro w hSw;(try dsimp only at hSw);go_simp;(try with_reducible rfl))
   simp only[Act.put,List.setIfInBounds_toArray]
   refine wpAnyH_take (i:=6) (oi:=_) (v:=?v6) rfl (by kernel_rfl) (by kernel_rfl) (by kernel_rfl) (fun _ _ _ h=>h) (Or.inl ⟨by rfl,?h6⟩) (by assumption) ?_
   case h6=>(intro w hSw;(try dsimp only at hSw);go_simp;(try with_reducible rfl))
   simp only[Act.put,List.setIfInBounds_toArray]
   refine wpAnyH_take (i:=7) (oi:=_) (v:=?v7) rfl (by kernel_rfl) (by kernel_rfl) (by kernel_rfl) (fun _ _ _ h=>h) (Or.inl ⟨by rfl,?h7⟩) (by assumption) ?_
   case h7=>(intro w hSw;(try dsimp only at hSw);go_simp;(try with_reducible rfl))
   simp only[Act.put,List.setIfInBounds_toArray]
   refine wpAnyH_ready (rs:=[8]) (by kernel_rfl) (by simp) ?_
   refine AllReadyH.cons (o:=_) rfl (fun K hK=>?_) AllReadyH.nil
   go_simp
   refine HCALL.out.mono ?_
   rintro e w3 ⟨v3,rfl,ho3,hb3⟩
   obtain⟨A3,c3,rfl⟩:=ho3.shape
   have hb3':Below wr.heap.size wr w3:=(Below.refl _ wr).drew.trans hb3
   have hp4:=(hb3'.block w1.heap.size hp3).trans HPA.out
   have hq4:=(hb3'.block w2.heap.size hq3).trans HQA.out
   have hpc3:w3.cell? ⟨w1.heap.size,k,none⟩=some (vs k):=by rw[Qa hp4,ZC ps hk4,HPV.out k (Nat.le_refl _)]
   have hqc3:w3.cell? ⟨w2.heap.size,k,none⟩=some (us k):=(Qa hq4).trans (ZC us hk4)
   have hf3:w3.frozen? ⟨w1.heap.size,k,none⟩=false:=Qb hp4
   have HP4:=hid hp4
   have HQ4:=hid hq4
   have HO3:=hid ho3
   have HB3:=hid hb3'
   clear hp4 hq4 ho3 hb3 hb3'
   dsimp only
   refine hK.out _ _ ⟨hpc3,hqc3⟩ (fun hHeld8=>?_)
   clear hK K
   simp only[List.setIfInBounds_toArray]
   refine wpAnyH_take (i:=9) (oi:=_) (v:=?v9) rfl (by kernel_rfl) (by kernel_rfl) (by kernel_rfl) (fun _ _ _ h=>h) (Or.inl ⟨by rfl,?h9⟩) (by assumption) ?_
   case h9=>(intro w hSw;(try dsimp only at hSw);go_simp;(try with_reducible rfl))
   simp only[Act.put,List.setIfInBounds_toArray]
   refine wpAnyH_done (by kernel_rfl) ?_ _
   change wpList _ _ _ _ _ _
   go_wp2_with fail
   go_roundw
   case rel=>
    have hs3:=HB3.out.size
    refine⟨k+1,by omega,by go_num,fun j=>if j=k then .slice A3 (byL (partL a k) (partL b k) how).length c3 else ps j,?_,?_,fun j hj=>?_,fun j hj=>?_,fun blk h1 h2=>?_,(hbr.trans (HB3.out.mono hsz)).setCell (Nat.le_refl _) _⟩
    ·rw[Qe HP4.out,Vu ps hk4]
    ·exact (Below.heap_setCell _ _ _ _ (by show w2.heap.size≠w1.heap.size;omega)).trans HQ4.out
    ·by_cases e:j=k
     ·subst e
      simp only[if_true]
      exact (HO3.out.mono (by show _<=wr.heap.size;omega)).setOther (by show w1.heap.size<_;omega) _
     ·simp only[if_neg e]
      exact ((HPO.out j (by omega)).grow HB3.out).setOther (by show w1.heap.size<_;omega) _
    ·show (if j=k then _ else ps j)=vs j
     rw[if_neg (show ¬j=k by omega)];exact HPV.out j (by omega)
    ·exact (Below.heap_setCell _ _ _ _ (by show blk≠w1.heap.size;omega)).trans ((HB3.out.block blk (by omega)).trans (HKP.out blk h1 h2))
   case measure=>simp[intOf];omega
  ·obtain rfl:k=4:=by omega
   have d0:wr.cell? ⟨w1.heap.size,0,none⟩=some (ps 0):=Qa (i:=0) hpa
   have d1:wr.cell? ⟨w1.heap.size,1,none⟩=some (ps 1):=Qa (i:=1) hpa
   have d2:wr.cell? ⟨w1.heap.size,2,none⟩=some (ps 2):=Qa (i:=2) hpa
   have d3:wr.cell? ⟨w1.heap.size,3,none⟩=some (ps 3):=Qa (i:=3) hpa
   have HOL:∀ j:Nat,(byL (partL a (j:Int)) (partL b (j:Int)) how).length<=80001:=fun j=>by
    have:=JJ (partL a (j:Int)) (partL b (j:Int)) how;have:=QK a (j:Int);have:=QK b (j:Int);omega
   have HSP:Hid (∀ j,j<4->SlP wr wr.heap.size 2 RuE (ps j) (byL (partL a (j:Int)) (partL b (j:Int)) how)):=fun j hj=>(hpo j hj).sl (by have:=HOL j;unfold Big;omega)
   have HOLH:=hid HOL
   clear hpa hqa hpo hpv hkp HOL
   go_wp2_with fail
   refine (VZ (fun j=>byL (partL a (j:Int)) (partL b (j:Int)) how) ps wr HSP.out (fun j _=>by have:=HOLH.out j;show (byL _ _ _).length<=_;omega)).mono ?_
   rintro e w4 ⟨v4,rfl,ho4,hb4⟩
   go_wp2_with fail
   go_ret
   exact⟨_,rfl,ho4.mono (by omega),(hb1.trans (hbr.mono hs1)).trans (hb4.mono (by omega))⟩
theorem qJt:Vy 157 0:=
 ⟨enters_of Tryz.func157 (by kernel_rfl) rfl,fun a b va vb W ha hb hra hrb hN hN'=>qJs a b va vb W ha hb hra hrb (by omega) (by omega)⟩
theorem YW (a b:List Sp)(va vb:Value)(w:World)(ha:SlP w w.heap.size 3 SpE va a)(hb:SlP w w.heap.size 3 SpE vb b)(hra:Qm a=true)(hrb:Qm b=true)(hN:a.length<=20000)(hN':b.length<=20000) :
  Calls Tryz.prog 112 #[va,vb] w (RetO w 45 3 (fun _=>SpE) (ctxBy a b 0)):=by
 go_enter Tryz.func112,Tryz.ntmps112
 go_wp2_with fail
 refine (qZp a b 0 _ qJt va vb w ha hb hra hrb hN hN').mono ?_
 rintro e w1 ⟨v,rfl,h⟩
 go_wp2_with fail
 go_ret
 exact⟨v,rfl,h⟩
theorem QL (l:List Dt):(ctxOf l).length<=4*(l.length+1):=Zk l 4
theorem YI (a b:List Sp)(how:Int):(ctxBy a b how).length<=4*(2*a.length+2*b.length+1):=Zj a b how 4
theorem ZR {d:Dt}(h:d.right=true):∀ x∈[d],x.right=true:=fun x hx=>by simp at hx;subst hx;exact h
def seenC (t:Tr)(d:Dt):List Sp:=ctxBy (ctxOf t.dots) (ctxOf [d]) 0
theorem Yk (t:Tr)(d:Dt):(seenC t d).length<=4*(8*t.sz+30):=by
 have h1:=YI (ctxOf t.dots) (ctxOf [d]) 0
 have h2:=QL t.dots
 have h3:=QL [d]
 have h4:=Zb t
 unfold seenC
 simp at h3
 omega
theorem qYa (t:Tr)(d:Dt)(ve vk:Value)(w:World)(h:t.rd w w.heap.size ve vk)(hN:t.sz<=4000)(hr:t.right 5=true)(hd:d.right=true)(ho:d.Ok) :
  Calls Tryz.prog 170 #[.agg #[ve,vk],.agg #[.int .i64 d.dc,.int .i64 d.n]] w (RetO w 45 3 (fun _=>SpE) (seenC t d)):=by
 have HC:Hid (∀ w',Below w.heap.size w w'->t.rd w' w'.heap.size ve vk):=fun w' hb=>Qi hb hb.size _ _ _ h
 have hdl:=Zb t
 have h2:=QL t.dots
 have h3:=QL [d]
 simp only[List.length_singleton]at h3
 have HAA:=hid (Qq (Q0 t 5 hr))
 have HAB:=hid (Qq (ZR hd))
 have HDR:=hid (ZR hd)
 obtain⟨A3,n3,A4,n4,rfl,rfl⟩:=Qj h
 have hb0:=((Below.refl w.heap.size w).alloc (Nat.le_refl _) (.cells #[.slice A3 t.es.length n3,.slice A4 t.ks.length n4] 25)).alloc (by simp) (.cells #[.int .i64 d.dc,.int .i64 d.n] 78)
 clear h
 go_enter Tryz.func170,Tryz.ntmps170
 go_wp2_with fail
 refine (YG t _ _ _ (HC.out _ hb0) (by omega)).mono ?_
 rintro e w1 ⟨v1,n1,rfl,hn1,ho1,hb1⟩
 rw[hr]at ho1 hn1
 obtain rfl:n1=0:=hn1
 rw[if_pos rfl]at ho1
 have hs1:=hb1.size
 simp only[World.size_alloc]at hs1
 have hB1:Below w.heap.size w w1:=hb0.trans (hb1.mono (by simp;omega))
 have c0:w1.cell? ⟨w.heap.size+1,0,none⟩=some (.int .i64 d.dc):=by rw[hb1.cell (p:=⟨w.heap.size+1,0,none⟩) (by simp)];simp
 have c1:w1.cell? ⟨w.heap.size+1,1,none⟩=some (.int .i64 d.n):=by rw[hb1.cell (p:=⟨w.heap.size+1,1,none⟩) (by simp)];simp
 have HO1:=hid ho1
 clear hr hd ho1
 go_wp2_with fail
 refine (X9 [d] _ _ (SlP.oneB (E:=DtE) (x:=d) (cs:=[.int .i64 d.dc,.int .i64 d.n]) ⟨rfl,ho⟩ rfl _ rfl (by simp)) HDR.out (by simp)).mono ?_
 rintro e w2 ⟨v2,rfl,ho2,hb2⟩
 have hs2:=hb2.size
 simp only[World.size_alloc]at hs2
 have hb2':Below w1.heap.size w1 w2:=((Below.refl _ w1).alloc (Nat.le_refl _) _).trans (hb2.mono (by simp))
 have hsl1:=(HO1.out.grow hb2').sl (by unfold Big;omega)
 have hsl2:=ho2.sl (by unfold Big;omega)
 have H1:=hid hsl1
 have H2:=hid hsl2
 clear hsl1 hsl2 ho2
 go_wp2_with fail
 refine (YW (ctxOf t.dots) (ctxOf [d]) v1 v2 w2 H1.out H2.out HAA.out HAB.out (by omega) (by omega)).mono ?_
 rintro e w3 ⟨v3,rfl,ho3,hb3⟩
 go_wp2_with fail
 go_ret
 exact⟨_,rfl,ho3.mono (by omega),(hB1.trans (hb2'.mono (by omega))).trans (hb3.mono (by omega))⟩
def onB (t:Tr):Bool:=t.right 5&&decide (0<t.es.length)
theorem zXh (t:Tr)(w:World)(ve vk:Value)(h:t.rd w w.heap.size ve vk) :
  Calls Tryz.prog 85 #[.agg #[ve,vk]] w fun e w'=>e=.returned (.bool (onB t))/\Below w.heap.size w w':=by
 have HC:Hid (∀ w',Below w.heap.size w w'->t.rd w' w'.heap.size ve vk):=fun w' hb=>Qi hb hb.size _ _ _ h
 have hfit:=VM _ _ _ h
 have hel:t.es.length<=140737488355328:=by obtain⟨es,ks⟩:=t;exact hfit.1
 obtain⟨A3,n3,A4,n4,rfl,rfl⟩:=Qj h
 have hb0:=(Below.refl w.heap.size w).alloc (Nat.le_refl _) (.cells #[.slice A3 t.es.length n3,.slice A4 t.ks.length n4] 25)
 clear h hfit
 go_enter Tryz.func85,Tryz.ntmps85
 go_wp2_with fail
 refine (QG t _ _ _ (HC.out _ hb0)).mono ?_
 rintro e w1 ⟨rfl,hb1⟩
 have hs1:=hb1.size
 simp only[World.size_alloc]at hs1
 have hB1:Below w.heap.size w w1:=hb0.trans (hb1.mono (by simp))
 have c0:w1.cell? ⟨w.heap.size,0,none⟩=some (.slice A3 t.es.length n3):=by rw[hb1.cell (p:=⟨w.heap.size,0,none⟩) (by simp)];simp
 cases hr:t.right 5
 ·have HR:Hid (onB t=false):=by unfold Hid onB;rw[hr];rfl
  clear hr
  go_wp2_with fail
  go_ret
  exact⟨Qf HR.out.symm,hB1⟩
 ·have HR:Hid (onB t=decide (0<t.es.length)):=by unfold Hid onB;rw[hr];rfl
  clear hr
  go_wp2_with fail
  go_ret
  exact⟨Qf HR.out.symm,hB1⟩
def disC (t:Tr)(d:Dt):List Sp:=if chkT t d then seenC t d else []
theorem qQb (t:Tr)(d:Dt)(ve vk:Value)(w:World)(h:t.rd w w.heap.size ve vk)(hN:t.sz<=4000)(hd:d.Ok) :
  Calls Tryz.prog 139 #[.agg #[ve,vk],.agg #[.int .i64 d.dc,.int .i64 d.n]] w (RetCE w (.mk [] []) (disC t d) (chkI t d)):=by
 have HC:Hid (∀ w',Below w.heap.size w w'->t.rd w' w'.heap.size ve vk):=fun w' hb=>Qi hb hb.size _ _ _ h
 obtain⟨A3,n3,A4,n4,rfl,rfl⟩:=Qj h
 have hb0:=(((Below.refl w.heap.size w).alloc (Nat.le_refl _) (.cells #[.slice A3 t.es.length n3,.slice A4 t.ks.length n4] 25)).alloc (by simp) (.cells #[.int .i64 d.dc,.int .i64 d.n] 78)).alloc (by simp;omega) (.cells #[.slice none 0 0,.slice none 0 0,.slice none 0 0] 29)
 clear h
 go_enter Tryz.func139,Tryz.ntmps139
 go_wp2_with fail
 refine (Zm t d _ _ _ (HC.out _ hb0) (by omega)).mono ?_
 rintro e w1 ⟨rfl,hb1⟩
 have hs1:=hb1.size
 simp only[World.size_alloc]at hs1
 have hB1:Below w.heap.size w w1:=hb0.trans (hb1.mono (by simp;omega))
 have c0:w1.cell? ⟨w.heap.size,0,none⟩=some (.slice A3 t.es.length n3):=by
  rw[hb1.cell (p:=⟨w.heap.size,0,none⟩) (by simp;omega)]
  rw[World.cell?_alloc_lt _ _ _ (by simp;omega),World.cell?_alloc_lt _ _ _ (by simp)];simp
 have c1:w1.cell? ⟨w.heap.size,1,none⟩=some (.slice A4 t.ks.length n4):=by
  rw[hb1.cell (p:=⟨w.heap.size,1,none⟩) (by simp;omega)]
  rw[World.cell?_alloc_lt _ _ _ (by simp;omega),World.cell?_alloc_lt _ _ _ (by simp)];simp
 have d0:w1.cell? ⟨w.heap.size+1,0,none⟩=some (.int .i64 d.dc):=by rw[hb1.cell (p:=⟨w.heap.size+1,0,none⟩) (by simp),World.cell?_alloc_lt _ _ _ (by simp)];simp
 have d1:w1.cell? ⟨w.heap.size+1,1,none⟩=some (.int .i64 d.n):=by rw[hb1.cell (p:=⟨w.heap.size+1,1,none⟩) (by simp),World.cell?_alloc_lt _ _ _ (by simp)];simp
 have hg:w1.heap[w.heap.size+2]?=some (.cells #[.slice none 0 0,.slice none 0 0,.slice none 0 0] 29 (0,0)):=(hb1.block (w.heap.size+2) (by simp)).trans (Qd (by simp))
 have HG:=hid hg
 have k0:w1.cell? ⟨w.heap.size+2,0,none⟩=some (.slice none 0 0):=Qa (i:=0) hg
 have k1:w1.cell? ⟨w.heap.size+2,1,none⟩=some (.slice none 0 0):=Qa (i:=1) hg
 have k2:w1.cell? ⟨w.heap.size+2,2,none⟩=some (.slice none 0 0):=Qa (i:=2) hg
 have z0:=Qb (i:=0) hg
 have z1:=Qb (i:=1) hg
 have z2:=Qb (i:=2) hg
 clear hg hb1
 cases hc:chkT t d
 ·have HE:Hid (chkI t d=1):=by unfold Hid chkI;rw[hc];rfl
  have HD:Hid (disC t d=[]):=by unfold Hid disC;rw[hc];rfl
  rw[HE.out]
  clear hc
  go_wp2_with fail
  obtain⟨r0,r1,r2,hK,hS⟩:=box3 HG.out (.slice none 0 0) (.slice none 0 0) (.slice none 0 0)
  have hBW:=((hB1.setCell (p:=⟨w.heap.size+2,0,none⟩) (by simp) (.slice none 0 0)).setCell (p:=⟨w.heap.size+2,1,none⟩) (by simp) (.slice none 0 0)).setCell (p:=⟨w.heap.size+2,2,none⟩) (by simp) (.slice none 0 0)
  refine bodyPost_ret (v:=.tuple #[.agg #[.slice none 0 0,.slice none 0 0,.slice none 0 0],.int .i64 1]) (by simp[results,Tryz.results139,go_sem,r0,r1,r2]) rfl ⟨_,_,_,by rw[HE.out],?_,?_,hBW⟩
  ·exact Qp _ _
  ·rw[HD.out];exact SlA.nil
 ·have HE:Hid (chkI t d=0):=by unfold Hid chkI;rw[hc];rfl
  have HD:Hid (disC t d=seenC t d):=by unfold Hid disC;rw[hc];rfl
  have HDR:=hid (Zn hc)
  have HTR:=hid (Yj hc)
  rw[HE.out]
  clear hc
  go_wp2_with fail
  refine (qYa t d _ _ w1 (HC.out _ hB1) hN HTR.out HDR.out hd).mono ?_
  rintro e w2 ⟨v2,rfl,ho2,hb2⟩
  obtain⟨A2,c2,rfl⟩:=ho2.shape
  have hs2:=hb2.size
  have hB2:Below w.heap.size w w2:=hB1.trans (hb2.mono (by omega))
  have HG2:=hid ((hb2.block (w.heap.size+2) (by omega)).trans HG.out)
  clear k0 k1 k2 z0 z1 z2 c0 c1 d0 d1
  have k0:w2.cell? ⟨w.heap.size+2,0,none⟩=some (.slice none 0 0):=Qa (i:=0) HG2.out
  have k1:w2.cell? ⟨w.heap.size+2,1,none⟩=some (.slice none 0 0):=Qa (i:=1) HG2.out
  have k2:w2.cell? ⟨w.heap.size+2,2,none⟩=some (.slice none 0 0):=Qa (i:=2) HG2.out
  have z0:=Qb (i:=0) HG2.out
  have z1:=Qb (i:=1) HG2.out
  have z2:=Qb (i:=2) HG2.out
  have HO2:=hid ho2
  have hsc:=Yk t d
  clear ho2
  go_wp2_with fail
  obtain⟨r0,r1,r2,hK,hS⟩:=box3 HG2.out (.slice none 0 0) (.slice none 0 0) (.slice A2 (seenC t d).length c2)
  have hBW:=((hB2.setCell (p:=⟨w.heap.size+2,0,none⟩) (by simp) (.slice none 0 0)).setCell (p:=⟨w.heap.size+2,1,none⟩) (by simp) (.slice none 0 0)).setCell (p:=⟨w.heap.size+2,2,none⟩) (by simp) (.slice A2 (seenC t d).length c2)
  refine bodyPost_ret (v:=.tuple #[.agg #[.slice none 0 0,.slice none 0 0,.slice A2 (seenC t d).length c2],.int .i64 0]) (by simp[results,Tryz.results139,go_sem,r0,r1,r2]) rfl ⟨_,_,_,by rw[HE.out],Qp _ _,?_,hBW⟩
  rw[HD.out]
  refine (HO2.out.sla (by unfold Big;omega)).up (fun b hb=>hK b (by have:=hb.1;omega)) (fun b hb=>⟨by have:=hb.1;omega,by rw[hS];exact hb.2.1⟩) (fun _ _ _ h=>h)
def sckB (t:Tr)(s:ByteArray)(d:Dt):Bool:=chkT t d&&keyB s
def sckI (t:Tr)(s:ByteArray)(d:Dt):Int:=if sckB t s d then 0 else 1
theorem K5 (t:Tr)(s:ByteArray)(d:Dt)(ve vk:Value)(w:World)(h:t.rd w w.heap.size ve vk)(hs:s.size<=Big)(hN:t.sz<=90000) :
  Calls Tryz.prog 171 #[.agg #[ve,vk],.string s,.agg #[.int .i64 d.dc,.int .i64 d.n]] w fun e w'=>e=.returned (.int .i64 (sckI t s d))/\Below w.heap.size w w':=by
 have HC:Hid (∀ w',Below w.heap.size w w'->t.rd w' w'.heap.size ve vk):=fun w' hb=>Qi hb hb.size _ _ _ h
 obtain⟨A3,n3,A4,n4,rfl,rfl⟩:=Qj h
 have hb0:=((Below.refl w.heap.size w).alloc (Nat.le_refl _) (.cells #[.slice A3 t.es.length n3,.slice A4 t.ks.length n4] 25)).alloc (by simp) (.cells #[.int .i64 d.dc,.int .i64 d.n] 78)
 unfold Big at hs
 clear h
 go_enter Tryz.func171,Tryz.ntmps171
 go_wp2_with fail
 refine (Zm t d _ _ _ (HC.out _ hb0) (by omega)).mono ?_
 rintro e w1 ⟨rfl,hb1⟩
 have hB1:Below w.heap.size w w1:=hb0.trans (hb1.mono (by simp;omega))
 clear hb1 hb0
 cases hc:chkT t d
 ·have HI:Hid (chkI t d=1):=by unfold Hid chkI;rw[hc];rfl
  have HR:Hid (sckI t s d=1):=by unfold Hid sckI sckB;rw[hc];rfl
  rw[HI.out]
  clear hc
  go_wp2_with fail
  go_ret
  exact⟨Qn HR.out.symm,hB1⟩
 have HI:Hid (chkI t d=0):=by unfold Hid chkI;rw[hc];rfl
 rw[HI.out]
 cases hk:keyB s
 ·have HR:Hid (sckI t s d=1):=by unfold Hid sckI sckB;rw[hc,hk];rfl
  have hkb:¬(1<=s.size/\s.size<=30):=by simpa[keyB] using hk
  clear hc hk
  by_cases hz:s.size<1
  ·have t1:decide ((s.size:Int)<1)=true:=by simp;omega
   go_wp2_with fail
   go_ret
   exact⟨Qn HR.out.symm,hB1⟩
  ·have t1:decide ((s.size:Int)<1)=false:=by simp;omega
   have t2:decide ((30:Int)<s.size)=true:=by simp;omega
   go_wp2_with fail
   go_ret
   exact⟨Qn HR.out.symm,hB1⟩
 ·have HR:Hid (sckI t s d=0):=by unfold Hid sckI sckB;rw[hc,hk];rfl
  have hkb:1<=s.size/\s.size<=30:=by simpa[keyB] using hk
  have t1:decide ((s.size:Int)<1)=false:=by simp;omega
  have t2:decide ((30:Int)<s.size)=false:=by simp;omega
  clear hc hk
  go_wp2_with fail
  go_ret
  exact⟨Qn HR.out.symm,hB1⟩
theorem Vz (key x:ByteArray)(A A':Option Addr)(n c n' c':Nat)(B:Nat)(w:World)(hc:w.cell? ⟨B,0,none⟩=some (.string key))(hB:B<w.heap.size) :
  Calls Tryz.prog 204 #[.agg #[.string x,.slice A n c,.slice A' n' c'],.pointer (some ⟨B,0,none⟩)] w fun e w'=>e=.returned (.bool (decide (x=key)))/\Below w.heap.size w w':=by
 have hne:B≠w.heap.size:=by omega
 have HE:Hid ((x.toList==key.toList)=decide (x=key)):=by
  unfold Hid;rw[Bool.eq_iff_iff];simp[QM]
 go_enter Tryz.func204,Tryz.ntmps204
 go_wp2_with fail
 go_ret
 exact⟨Qf HE.out,by go_grown⟩
theorem qJu {key:ByteArray}{B:Nat}{w:World}(hc:w.cell? ⟨B,0,none⟩=some (.string key))(hB:B<w.heap.size):JU 204 #[.pointer (some ⟨B,0,none⟩)] (fun x=>decide (x=key)) w:=
 ⟨enters_of Tryz.func204 (by kernel_rfl) rfl,fun x A A' n c n' c' W _ hW=>Vz key x A A' n c n' c' B W ((hW.cell (p:=⟨B,0,none⟩) hB).trans hc) (by have:=hW.size;omega)⟩
def hasK (t:Tr)(s:ByteArray):Bool:=t.ks.any fun y=>decide (y.1=s)
theorem qJv (t:Tr)(s:ByteArray)(ve vk:Value)(w:World)(h:t.rd w w.heap.size ve vk) :
  Calls Tryz.prog 172 #[.agg #[ve,vk],.string s] w fun e w'=>e=.returned (.bool (hasK t s))/\Below w.heap.size w w':=by
 have HK:Hid (∀ w',Below w.heap.size w w'->SlP w' w'.heap.size 3 (KdE w' w'.heap.size) vk t.ks):=fun w' hb=>Xy (Qi hb hb.size _ _ _ h)
 obtain⟨A3,n3,A4,n4,rfl,rfl⟩:=Qj h
 clear h
 go_enter Tryz.func172,Tryz.ntmps172
 go_wp2_with fail
 refine (KO (fun y=>decide (y=s)) _ _ t.ks _ _ (HK.out _ (by go_grown)) (qJu (key:=s) (B:=w.heap.size+1) (by simp) (by simp))).mono ?_
 rintro e w1 ⟨rfl,hb1⟩
 go_wp2_with fail
 go_ret
 exact⟨Qf rfl,Below.trans (by go_grown) (hb1.mono (by simp;omega))⟩
theorem qJw {t:Tr}(h:t.right 5=true)(s:ByteArray):(kidT t s).right 5=true:=qX0 _ 4 5 (KM (n:=4) h (by omega) s) (by omega)
theorem Kb (t:Tr)(s:ByteArray)(d:Dt)(ve vk:Value)(w:World)(h:t.rd w w.heap.size ve vk)(hs:s.size<=Big)(hN:t.sz<=4000)(hr:t.right 5=true)(hd:d.right=true)(ho:d.Ok) :
  Calls Tryz.prog 173 #[.agg #[ve,vk],.string s,.agg #[.int .i64 d.dc,.int .i64 d.n]] w (RetO w 45 3 (fun _=>SpE) (seenC (kidT t s) d)):=by
 have HC:Hid (∀ w',Below w.heap.size w w'->t.rd w' w'.heap.size ve vk):=fun w' hb=>Qi hb hb.size _ _ _ h
 have hk5:=qJw hr s
 have hks:=YE t s
 have hG:tgetT t [s]=kidT t s:=by unfold tgetT;rw[hr];rfl
 have HSN:Hid (seenC (kidT t s) d=ctxBy (ctxOf (kidT t s).dots) (ctxOf [d]) 0):=rfl
 generalize kidT t s=u at *
 have hdl:=Zb u
 have h2:=QL u.dots
 have h3:=QL [d]
 simp only[List.length_singleton]at h3
 have HAA:=hid (Qq (Q0 u 5 hk5))
 have HAB:=hid (Qq (ZR hd))
 have HDR:=hid (ZR hd)
 obtain⟨A3,n3,A4,n4,rfl,rfl⟩:=Qj h
 have hb0:=((Below.refl w.heap.size w).alloc (Nat.le_refl _) (.cells #[.slice A3 t.es.length n3,.slice A4 t.ks.length n4] 25)).alloc (by simp) (.cells #[.int .i64 d.dc,.int .i64 d.n] 78)
 have hb1:Below w.heap.size w (((w.alloc (.cells #[.slice A3 t.es.length n3,.slice A4 t.ks.length n4] 25)).alloc (.cells #[.int .i64 d.dc,.int .i64 d.n] 78)).alloc (.cells #[.string s] 9)):=hb0.alloc (by simp;omega) _
 clear h hr hd
 go_enter Tryz.func173,Tryz.ntmps173
 go_wp2_with fail
 refine (Xz t [s] _ _ _ _ (HC.out _ hb1) (SlP.oneB (E:=StE) (n:=w.heap.size+1+1) (x:=s) (cs:=[.string s]) ⟨rfl,hs⟩ rfl _ (by simp) (by simp)) (by omega)).mono ?_
 rw[hG]
 rintro e w1 ⟨ve1,vk1,rfl,hrd1,hb2⟩
 obtain⟨A5,n5,A6,n6,rfl,rfl⟩:=Ql hrd1
 have hs1:=hb2.size
 simp only[World.size_alloc]at hs1
 have hB1:Below w.heap.size w w1:=hb1.trans (hb2.mono (by simp;omega))
 have c0:w1.cell? ⟨w.heap.size+1,0,none⟩=some (.int .i64 d.dc):=by
  rw[hb2.cell (p:=⟨w.heap.size+1,0,none⟩) (by simp),World.cell?_alloc_lt _ _ _ (by simp)];simp
 have c1:w1.cell? ⟨w.heap.size+1,1,none⟩=some (.int .i64 d.n):=by
  rw[hb2.cell (p:=⟨w.heap.size+1,1,none⟩) (by simp),World.cell?_alloc_lt _ _ _ (by simp)];simp
 have HU:=hid (Zx hrd1 (fun b hb=>hb.2) (Below.refl _ w1))
 have HK5:=hid hk5
 clear hrd1 hb2 hG hk5
 go_wp2_with fail
 refine (YG u _ _ w1 HU.out (by omega)).mono ?_
 rintro e w2 ⟨v2,n2,rfl,hn2,ho2,hb2⟩
 rw[HK5.out]at ho2 hn2
 obtain rfl:n2=0:=hn2
 rw[if_pos rfl]at ho2
 obtain⟨A7,n7,rfl⟩:=ho2.shape
 have hs2:=hb2.size
 have hB2:Below w.heap.size w w2:=hB1.trans (hb2.mono (by omega))
 have d0:w2.cell? ⟨w.heap.size+1,0,none⟩=some (.int .i64 d.dc):=(hb2.cell (p:=⟨w.heap.size+1,0,none⟩) (by show w.heap.size+1<_;omega)).trans c0
 have d1:w2.cell? ⟨w.heap.size+1,1,none⟩=some (.int .i64 d.n):=(hb2.cell (p:=⟨w.heap.size+1,1,none⟩) (by show w.heap.size+1<_;omega)).trans c1
 have HO2:=hid ho2
 clear ho2 c0 c1 hb2
 go_wp2_with fail
 refine (X9 [d] _ _ (SlP.oneB (E:=DtE) (x:=d) (cs:=[.int .i64 d.dc,.int .i64 d.n]) ⟨rfl,ho⟩ rfl _ rfl (by simp)) HDR.out (by simp)).mono ?_
 rintro e w3 ⟨v3,rfl,ho3,hb3⟩
 obtain⟨A8,n8,rfl⟩:=ho3.shape
 have hs3:=hb3.size
 simp only[World.size_alloc]at hs3
 have hb3':Below w2.heap.size w2 w3:=((Below.refl _ w2).alloc (Nat.le_refl _) _).trans (hb3.mono (by simp))
 have H1:=hid ((HO2.out.grow hb3').sl (by unfold Big;omega))
 have H2:=hid (ho3.sl (by unfold Big;omega))
 clear ho3 hb3 d0 d1
 go_wp2_with fail
 refine (YW (ctxOf u.dots) (ctxOf [d]) _ _ w3 H1.out H2.out HAA.out HAB.out (by omega) (by omega)).mono ?_
 rintro e w4 ⟨v4,rfl,ho4,hb4⟩
 go_wp2_with fail
 go_ret
 exact⟨_,rfl,by rw[HSN.out];exact ho4.mono (by omega),(hB2.trans (hb3'.mono (by omega))).trans (hb4.mono (by omega))⟩
def delC (t:Tr)(s:ByteArray)(d:Dt):List Sp:=if sckB t s d then seenC (kidT t s) d else []
theorem Jb {t:Tr}{s:ByteArray}{d:Dt}(h:sckB t s d=true):chkT t d=true/\keyB s=true:=by
 unfold sckB at h;simpa using h
theorem zQi (t:Tr)(s:ByteArray)(d:Dt)(ve vk:Value)(w:World)(h:t.rd w w.heap.size ve vk)(hs:s.size<=Big)(hN:t.sz<=4000)(hd:d.Ok) :
  Calls Tryz.prog 141 #[.agg #[ve,vk],.string s,.agg #[.int .i64 d.dc,.int .i64 d.n]] w (RetCE w (.mk [] []) (delC t s d) (sckI t s d)):=by
 have HC:Hid (∀ w',Below w.heap.size w w'->t.rd w' w'.heap.size ve vk):=fun w' hb=>Qi hb hb.size _ _ _ h
 obtain⟨A3,n3,A4,n4,rfl,rfl⟩:=Qj h
 have hb0:=(((Below.refl w.heap.size w).alloc (Nat.le_refl _) (.cells #[.slice A3 t.es.length n3,.slice A4 t.ks.length n4] 25)).alloc (by simp) (.cells #[.int .i64 d.dc,.int .i64 d.n] 78)).alloc (by simp;omega) (.cells #[.slice none 0 0,.slice none 0 0,.slice none 0 0] 29)
 clear h
 go_enter Tryz.func141,Tryz.ntmps141
 go_wp2_with fail
 refine (K5 t s d _ _ _ (HC.out _ hb0) hs (by omega)).mono ?_
 rintro e w1 ⟨rfl,hb1⟩
 have hs1:=hb1.size
 simp only[World.size_alloc]at hs1
 have hB1:Below w.heap.size w w1:=hb0.trans (hb1.mono (by simp;omega))
 have c0:w1.cell? ⟨w.heap.size,0,none⟩=some (.slice A3 t.es.length n3):=by
  rw[hb1.cell (p:=⟨w.heap.size,0,none⟩) (by simp;omega)]
  rw[World.cell?_alloc_lt _ _ _ (by simp;omega),World.cell?_alloc_lt _ _ _ (by simp)];simp
 have c1:w1.cell? ⟨w.heap.size,1,none⟩=some (.slice A4 t.ks.length n4):=by
  rw[hb1.cell (p:=⟨w.heap.size,1,none⟩) (by simp;omega)]
  rw[World.cell?_alloc_lt _ _ _ (by simp;omega),World.cell?_alloc_lt _ _ _ (by simp)];simp
 have d0:w1.cell? ⟨w.heap.size+1,0,none⟩=some (.int .i64 d.dc):=by rw[hb1.cell (p:=⟨w.heap.size+1,0,none⟩) (by simp),World.cell?_alloc_lt _ _ _ (by simp)];simp
 have d1:w1.cell? ⟨w.heap.size+1,1,none⟩=some (.int .i64 d.n):=by rw[hb1.cell (p:=⟨w.heap.size+1,1,none⟩) (by simp),World.cell?_alloc_lt _ _ _ (by simp)];simp
 have hg:w1.heap[w.heap.size+2]?=some (.cells #[.slice none 0 0,.slice none 0 0,.slice none 0 0] 29 (0,0)):=(hb1.block (w.heap.size+2) (by simp)).trans (Qd (by simp))
 have HG:=hid hg
 have k0:w1.cell? ⟨w.heap.size+2,0,none⟩=some (.slice none 0 0):=Qa (i:=0) hg
 have k1:w1.cell? ⟨w.heap.size+2,1,none⟩=some (.slice none 0 0):=Qa (i:=1) hg
 have k2:w1.cell? ⟨w.heap.size+2,2,none⟩=some (.slice none 0 0):=Qa (i:=2) hg
 have z0:=Qb (i:=0) hg
 have z1:=Qb (i:=1) hg
 have z2:=Qb (i:=2) hg
 clear hg hb1
 cases hc:sckB t s d
 ·have HE:Hid (sckI t s d=1):=by unfold Hid sckI;rw[hc];rfl
  have HD:Hid (delC t s d=[]):=by unfold Hid delC;rw[hc];rfl
  rw[HE.out]
  clear hc
  go_wp2_with fail
  obtain⟨r0,r1,r2,hK,hS⟩:=box3 HG.out (.slice none 0 0) (.slice none 0 0) (.slice none 0 0)
  have hBW:=((hB1.setCell (p:=⟨w.heap.size+2,0,none⟩) (by simp) (.slice none 0 0)).setCell (p:=⟨w.heap.size+2,1,none⟩) (by simp) (.slice none 0 0)).setCell (p:=⟨w.heap.size+2,2,none⟩) (by simp) (.slice none 0 0)
  refine bodyPost_ret (v:=.tuple #[.agg #[.slice none 0 0,.slice none 0 0,.slice none 0 0],.int .i64 1]) (by simp[results,Tryz.results141,go_sem,r0,r1,r2]) rfl ⟨_,_,_,by rw[HE.out],?_,?_,hBW⟩
  ·exact Qp _ _
  ·rw[HD.out];exact SlA.nil
 ·have HE:Hid (sckI t s d=0):=by unfold Hid sckI;rw[hc];rfl
  have HD:Hid (delC t s d=seenC (kidT t s) d):=by unfold Hid delC;rw[hc];rfl
  have HDR:=hid (Zn (Jb hc).1)
  have HTR:=hid (Yj (Jb hc).1)
  rw[HE.out]
  clear hc
  go_wp2_with fail
  refine (Kb t s d _ _ w1 (HC.out _ hB1) hs hN HTR.out HDR.out hd).mono ?_
  rintro e w2 ⟨v2,rfl,ho2,hb2⟩
  obtain⟨A2,c2,rfl⟩:=ho2.shape
  have hs2:=hb2.size
  have hB2:Below w.heap.size w w2:=hB1.trans (hb2.mono (by omega))
  have HG2:=hid ((hb2.block (w.heap.size+2) (by omega)).trans HG.out)
  clear k0 k1 k2 z0 z1 z2 c0 c1 d0 d1
  have k0:w2.cell? ⟨w.heap.size+2,0,none⟩=some (.slice none 0 0):=Qa (i:=0) HG2.out
  have k1:w2.cell? ⟨w.heap.size+2,1,none⟩=some (.slice none 0 0):=Qa (i:=1) HG2.out
  have k2:w2.cell? ⟨w.heap.size+2,2,none⟩=some (.slice none 0 0):=Qa (i:=2) HG2.out
  have z0:=Qb (i:=0) HG2.out
  have z1:=Qb (i:=1) HG2.out
  have z2:=Qb (i:=2) HG2.out
  have HO2:=hid ho2
  have hsc:=Yk (kidT t s) d
  have hkz:=YE t s
  clear ho2
  go_wp2_with fail
  obtain⟨r0,r1,r2,hK,hS⟩:=box3 HG2.out (.slice none 0 0) (.slice none 0 0) (.slice A2 (seenC (kidT t s) d).length c2)
  have hBW:=((hB2.setCell (p:=⟨w.heap.size+2,0,none⟩) (by simp) (.slice none 0 0)).setCell (p:=⟨w.heap.size+2,1,none⟩) (by simp) (.slice none 0 0)).setCell (p:=⟨w.heap.size+2,2,none⟩) (by simp) (.slice A2 (seenC (kidT t s) d).length c2)
  refine bodyPost_ret (v:=.tuple #[.agg #[.slice none 0 0,.slice none 0 0,.slice A2 (seenC (kidT t s) d).length c2],.int .i64 0]) (by simp[results,Tryz.results141,go_sem,r0,r1,r2]) rfl ⟨_,_,_,by rw[HE.out],Qp _ _,?_,hBW⟩
  rw[HD.out]
  refine (HO2.out.sla (by unfold Big;omega)).up (fun b hb=>hK b (by have:=hb.1;omega)) (fun b hb=>⟨by have:=hb.1;omega,by rw[hS];exact hb.2.1⟩) (fun _ _ _ h=>h)
theorem qZr (s:ByteArray)(w:World):Calls Tryz.prog 174 #[.string s] w fun e w'=>e=.returned (.bool !keyB s)/\Below w.heap.size w w':=by
 go_enter Tryz.func174,Tryz.ntmps174
 go_wp2_with fail
 refine (Zz s _).mono ?_
 rintro e w1 ⟨rfl,hb1⟩
 go_wp2_with fail
 go_ret
 exact⟨rfl,hb1⟩
theorem qQe:∀ (t:Tr) (d:Int),t.right d=true->(t.dep:Int)<=d:=by
 intro t
 induction t using Tr.ind with
 |h es ks ih=>
 intro d h
 rw[Tr.right,Bool.and_eq_true,Bool.and_eq_true,decide_eq_true_eq]at h
 obtain⟨⟨h1,_⟩,h2⟩:=h
 rw[Tr.dep]
 have:∀ (p:Option ByteArray) (ks:List Kd),(∀ k t,(k,t)∈ks->∀ d,t.right d=true->(t.dep:Int)<=d)->Tr.rightL p ks d=true->(Tr.depL ks:Int)<=d-1:=by
  intro p ks
  induction ks generalizing p with
  |nil=>intro _ _;simp[Tr.depL];omega
  |cons x ks ih'=>
   obtain⟨k,t⟩:=x
   intro hi h
   rw[QX,Bool.and_eq_true,Bool.and_eq_true]at h
   have a:=hi k t (by simp) _ h.1.2
   have b:=ih' (some k) (fun k t hm=>hi k t (by simp[hm])) h.2
   rw[Tr.depL];omega
 have:=this none ks ih h2
 omega
def wrapE (t:Tr)(s:ByteArray):Int:=if !(t.right 5)||!keyB s then 1 else if !empB t.es.length t.ks.length&&decide (5<t.dep+1) then 10 else 0
def wrapT (t:Tr)(s:ByteArray):Tr:=if wrapE t s=0 then (if empB t.es.length t.ks.length then t else .mk [] [(s,t)]) else .mk [] []
def RetTE (w:World)(t:Tr)(k:Int)(e:Ending)(w':World):Prop:=
 ∃ ve vk,e=.returned (.tuple #[.agg #[ve,vk],.int .i64 k])/\t.rda w' (fun b=>w.heap.size<=b/\b<w'.heap.size) ve vk/\Below w.heap.size w w'
theorem qJx {w w6:World}{t:Tr}{s:ByteArray}{Ae Ak:Option Addr}{ne nk:Nat}{x0 x1:Value}(hs:s.size<=Big)(g2:w6.heap[w.heap.size]?=some (.cells #[x0,x1] 25 (0,0)))
  (g4:w6.heap[w.heap.size+1]?=some (.cells #[.slice none 0 0,.slice none 0 0] 25 (0,0))) (hsw:w.heap.size+2<=w6.heap.size) (hrd:t.rda w6 (fun b=>w.heap.size+2<=b/\b<w6.heap.size) (.slice Ae t.es.length ne) (.slice Ak t.ks.length nk)) (hB:Below w.heap.size w w6) :
  ∃ W,W=((((w6.setCell ⟨w.heap.size,0,none⟩ (.slice none 0 0)).setCell ⟨w.heap.size,1,none⟩ (.slice (some ⟨w6.heap.size,0,none⟩) 1 1)).alloc (.cells #[.string s,.slice Ae t.es.length ne,.slice Ak t.ks.length nk] 96)).drew)/\W.heap[w.heap.size]?=some (.cells #[.slice none 0 0,.slice (some ⟨w6.heap.size,0,none⟩) 1 1] 25 (0,0)) /\
   (Tr.mk [] [(s,t)]).rda W (fun b=>w.heap.size+2<=b/\b<W.heap.size) (.slice none 0 0) (.slice (some ⟨w6.heap.size,0,none⟩) 1 1) /\
   W.heap[w.heap.size+1]?=some (.cells #[.slice none 0 0,.slice none 0 0] 25 (0,0))/\Below w.heap.size w W/\w.heap.size+2<=W.heap.size:=by
 have hS:((w6.setCell ⟨w.heap.size,0,none⟩ (.slice none 0 0)).setCell ⟨w.heap.size,1,none⟩ (.slice (some ⟨w6.heap.size,0,none⟩) 1 1)).heap.size=w6.heap.size:=by simp[World.setCell]
 have hK:∀ b,b≠w.heap.size->((w6.setCell ⟨w.heap.size,0,none⟩ (.slice none 0 0)).setCell ⟨w.heap.size,1,none⟩ (.slice (some ⟨w6.heap.size,0,none⟩) 1 1)).heap[b]?=w6.heap[b]?:=fun b hb=>(Below.heap_setCell _ _ _ _ hb).trans (Below.heap_setCell _ _ _ _ hb)
 have hC:=Qe (i:=1) (Qe (i:=0) g2 (.slice none 0 0)) (.slice (some ⟨w6.heap.size,0,none⟩) 1 1)
 have hBW:=(hB.setCell (p:=⟨w.heap.size,0,none⟩) (by simp) (.slice none 0 0)).setCell (p:=⟨w.heap.size,1,none⟩) (by simp) (.slice (some ⟨w6.heap.size,0,none⟩) 1 1)
 refine⟨_,rfl,?_⟩
 generalize ((w6.setCell ⟨w.heap.size,0,none⟩ (.slice none 0 0)).setCell ⟨w.heap.size,1,none⟩ (.slice (some ⟨w6.heap.size,0,none⟩) 1 1))=V at *
 refine⟨(Qg (by omega)).trans (by simpa using hC),?_,(Qg (by omega)).trans ((hK _ (by omega)).trans g4),(hBW.alloc (by omega) _).drew,by show _<=(V.alloc _).heap.size;rw[World.size_alloc];omega⟩
 rw[Zh]
 refine⟨SlA.nil,?_⟩
 have hZ:(V.alloc (.cells #[.string s,.slice Ae t.es.length ne,.slice Ak t.ks.length nk] 96)).drew.heap.size=V.heap.size+1:=World.size_alloc _ _
 have hk2:Keeps (fun b=>w.heap.size+2<=b/\b<w6.heap.size) w6 (V.alloc (.cells #[.string s,.slice Ae t.es.length ne,.slice Ak t.ks.length nk] 96)).drew:=fun b hb=>show (V.alloc (.cells #[.string s,.slice Ae t.es.length ne,.slice Ak t.ks.length nk] 96)).heap[b]?=_ from (Qg (by have:=hb.2;omega)).trans (hK b (by have:=hb.1;omega))
 have hrd2:t.rda (V.alloc (.cells #[.string s,.slice Ae t.es.length ne,.slice Ak t.ks.length nk] 96)).drew (fun b=>w.heap.size+2<=b/\b<(V.alloc (.cells #[.string s,.slice Ae t.es.length ne,.slice Ak t.ks.length nk] 96)).drew.heap.size) (.slice Ae t.es.length ne) (.slice Ak t.ks.length nk):=Qs hk2 (fun b hb=>⟨hb.1,by rw[hZ];have:=hb.2;omega⟩) _ _ _ hrd
 have hnew:(V.alloc (.cells #[.string s,.slice Ae t.es.length ne,.slice Ak t.ks.length nk] 96)).drew.heap[w6.heap.size]?=some (.cells #[.string s,.slice Ae t.es.length ne,.slice Ak t.ks.length nk] 96 (0,0)):=show (V.alloc (.cells #[.string s,.slice Ae t.es.length ne,.slice Ak t.ks.length nk] 96)).heap[w6.heap.size]?=_ from Qd hS.symm
 exact SlA.one (x:=(s,t)) (cs:=[.string s,.slice Ae t.es.length ne,.slice Ak t.ks.length nk]) (e:=96) (z:=(0,0)) ⟨_,_,rfl,hs,hrd2⟩ rfl hnew ⟨hsw,by rw[hZ];omega⟩
theorem YJ (t:Tr)(s:ByteArray)(ve vk vp:Value)(w:World)(h:t.rd w w.heap.size ve vk)(hp:SlP w w.heap.size 1 StE vp [s])(hN:t.sz<=900000) :
  Calls Tryz.prog 148 #[.agg #[ve,vk],vp] w (RetTE w (wrapT t s) (wrapE t s)):=by
 have HC:Hid (∀ w',Below w.heap.size w w'->t.rd w' w'.heap.size ve vk):=fun w' hb=>Qi hb hb.size _ _ _ h
 have HP:Hid (∀ w',Below w.heap.size w w'->SlP w' w'.heap.size 1 StE vp [s]):=fun w' hb=>hp.imp hb hb.size fun _ _ _ h=>h
 have hfit:=VM _ _ _ h
 obtain⟨hel,hkl⟩:t.es.length<=140737488355328/\t.ks.length<=140737488355328:=by obtain⟨es,ks⟩:=t;exact⟨hfit.1,hfit.2.1⟩
 obtain⟨A3,n3,A4,n4,rfl,rfl⟩:=Qj h
 obtain⟨Ap,cp,rfl,p1,p2,p3⟩:=hp
 obtain⟨bp,op,rfl,hbp,hcp⟩:=p3 (by simp)
 obtain⟨cs,⟨rfl,hsz⟩,_,hu⟩:=hcp 0 s rfl
 have hps:w.cell? ⟨bp,op,none⟩=some (.string s):=by simpa using hu 0 _ rfl
 clear hcp hu p3 h hfit
 simp only[List.length_cons,List.length_nil]at *
 have hb0:Below w.heap.size w ((w.alloc (.cells #[.slice A3 t.es.length n3,.slice A4 t.ks.length n4] 25)).alloc (.cells #[.slice none 0 0,.slice none 0 0] 25)):=((Below.refl _ w).alloc (Nat.le_refl _) _).alloc (by simp) _
 have HT:Hid (∀ w,JR 174 #[] (fun s=>!keyB s) w):=fun w=>⟨enters_of Tryz.func174 (by kernel_rfl) rfl,fun x W _ _=>qZr x W⟩
 go_enter Tryz.func148,Tryz.ntmps148
 have HW:Hid (∀ w',Below (w.heap.size+2) ((w.alloc (.cells #[.slice A3 t.es.length n3,.slice A4 t.ks.length n4] 25)).alloc (.cells #[.slice none 0 0,.slice none 0 0] 25)) w'->Below w.heap.size w w'/\w.heap.size+2<=w'.heap.size/\w'.heap[w.heap.size]?=some (.cells #[.slice A3 t.es.length n3,.slice A4 t.ks.length n4] 25 (0,0))/\w'.heap[w.heap.size+1]?=some (.cells #[.slice none 0 0,.slice none 0 0] 25 (0,0))/\w'.cell? ⟨bp,op,none⟩=some (.string s)):=fun w' hb=>by
  have hB:Below w.heap.size w w':=hb0.trans (hb.mono (by omega))
  refine⟨hB,by have:=hb.size;simpa using this,(hb.block _ (by omega)).trans ((Qg (by simp)).trans (Qd rfl)),(hb.block _ (by omega)).trans (Qd (by simp)),(hB.cell hbp).trans hps⟩
 have HPS:=hid hps
 clear hps
 go_wp2_with fail
 refine (QG t _ _ _ (HC.out _ hb0)).mono ?_
 rintro e w1 ⟨rfl,hb1⟩
 have hb1':=hid (hb1.mono (show w.heap.size+2<=_ by simp))
 obtain⟨hB1,hs1,g2,g4,hps⟩:=HW.out _ hb1'.out
 have HG2:=hid g2
 have HG4:=hid g4
 have c0:w1.cell? ⟨w.heap.size,0,none⟩=some (.slice A3 t.es.length n3):=Qa (i:=0) g2
 have c1:w1.cell? ⟨w.heap.size,1,none⟩=some (.slice A4 t.ks.length n4):=Qa (i:=1) g2
 have k0:w1.cell? ⟨w.heap.size+1,0,none⟩=some (.slice none 0 0):=Qa (i:=0) g4
 have k1:w1.cell? ⟨w.heap.size+1,1,none⟩=some (.slice none 0 0):=Qa (i:=1) g4
 have y0:=Qb (i:=0) g2
 have y1:=Qb (i:=1) g2
 have z0:=Qb (i:=0) g4
 have z1:=Qb (i:=1) g4
 clear g2 g4
 clear hb1
 cases hr:t.right 5
 ·have HE:Hid (wrapE t s=1):=by unfold Hid wrapE;rw[hr];rfl
  have HTT:Hid (wrapT t s=.mk [] []):=by unfold Hid wrapT;rw[HE.out];rfl
  clear hr
  go_wp2_with fail
  have hW0:=Qe (i:=1) (Qe (i:=0) HG4.out (.slice none 0 0)) (.slice none 0 0)
  have r0:=(Qa (i:=0) hW0).trans (show _=some (.slice none 0 0) by simp)
  have r1:=(Qa (i:=1) hW0).trans (show _=some (.slice none 0 0) by simp)
  refine bodyPost_ret (v:=.tuple #[.agg #[.slice none 0 0,.slice none 0 0],.int .i64 1]) (by simp[results,Tryz.results148,go_sem,r0,r1]) rfl ⟨_,_,by rw[HE.out],by rw[HTT.out];exact Qp _ _,(hB1.setCell (by simp) _).setCell (by simp) _⟩
 have hdep:=qQe t 5 hr
 go_wp2_with fail
 refine (X4 (fun s=>!keyB s) _ _ [s] _ w1 (HP.out _ hB1) (HT.out w1)).mono ?_
 rintro e w2 ⟨rfl,hb2⟩
 rw[show List.any [s] (fun s=>!keyB s) = !keyB s by simp]
 clear c0 c1 k0 k1 y0 y1 z0 z1 hps HG2 HG4
 have hb2':=hid (hb1'.out.trans (hb2.mono hs1))
 obtain⟨hB2,hs2,g2,g4,hps⟩:=HW.out _ hb2'.out
 have HG2:=hid g2
 have HG4:=hid g4
 have c0:w2.cell? ⟨w.heap.size,0,none⟩=some (.slice A3 t.es.length n3):=Qa (i:=0) g2
 have c1:w2.cell? ⟨w.heap.size,1,none⟩=some (.slice A4 t.ks.length n4):=Qa (i:=1) g2
 have k0:w2.cell? ⟨w.heap.size+1,0,none⟩=some (.slice none 0 0):=Qa (i:=0) g4
 have k1:w2.cell? ⟨w.heap.size+1,1,none⟩=some (.slice none 0 0):=Qa (i:=1) g4
 have y0:=Qb (i:=0) g2
 have y1:=Qb (i:=1) g2
 have z0:=Qb (i:=0) g4
 have z1:=Qb (i:=1) g4
 clear g2 g4
 clear hb2
 cases hk:keyB s
 ·have HE:Hid (wrapE t s=1):=by unfold Hid wrapE;rw[hr,hk];rfl
  have HTT:Hid (wrapT t s=.mk [] []):=by unfold Hid wrapT;rw[HE.out];rfl
  clear hr hk
  go_wp2_with fail
  have hW0:=Qe (i:=1) (Qe (i:=0) HG4.out (.slice none 0 0)) (.slice none 0 0)
  have r0:=(Qa (i:=0) hW0).trans (show _=some (.slice none 0 0) by simp)
  have r1:=(Qa (i:=1) hW0).trans (show _=some (.slice none 0 0) by simp)
  refine bodyPost_ret (v:=.tuple #[.agg #[.slice none 0 0,.slice none 0 0],.int .i64 1]) (by simp[results,Tryz.results148,go_sem,r0,r1]) rfl ⟨_,_,by rw[HE.out],by rw[HTT.out];exact Qp _ _,(hB2.setCell (by simp) _).setCell (by simp) _⟩
 go_wp2_with fail
 refine (QE t.es.length t.ks.length A3 A4 n3 n4 w2).mono ?_
 rintro e w3 ⟨rfl,hb3⟩
 clear c0 c1 k0 k1 y0 y1 z0 z1 hps HG2 HG4
 have hb3':=hid (hb2'.out.trans (hb3.mono hs2))
 obtain⟨hB3,hs3,g2,g4,hps⟩:=HW.out _ hb3'.out
 have HG2:=hid g2
 have HG4:=hid g4
 have c0:w3.cell? ⟨w.heap.size,0,none⟩=some (.slice A3 t.es.length n3):=Qa (i:=0) g2
 have c1:w3.cell? ⟨w.heap.size,1,none⟩=some (.slice A4 t.ks.length n4):=Qa (i:=1) g2
 have k0:w3.cell? ⟨w.heap.size+1,0,none⟩=some (.slice none 0 0):=Qa (i:=0) g4
 have k1:w3.cell? ⟨w.heap.size+1,1,none⟩=some (.slice none 0 0):=Qa (i:=1) g4
 have y0:=Qb (i:=0) g2
 have y1:=Qb (i:=1) g2
 have z0:=Qb (i:=0) g4
 have z1:=Qb (i:=1) g4
 clear g2 g4
 clear hb3
 cases hm:empB t.es.length t.ks.length
 ·go_wp2_with fail
  refine (qVm t w3 _ _ (HC.out _ hB3) (by omega)).mono ?_
  rintro e w4 ⟨rfl,hb4⟩
  clear c0 c1 k0 k1 y0 y1 z0 z1 hps HG2 HG4
  have hb4':=hid (hb3'.out.trans (hb4.mono hs3))
  obtain⟨hB4,hs4,g2,g4,hps⟩:=HW.out _ hb4'.out
  have HG2:=hid g2
  have HG4:=hid g4
  have c0:w4.cell? ⟨w.heap.size,0,none⟩=some (.slice A3 t.es.length n3):=Qa (i:=0) g2
  have c1:w4.cell? ⟨w.heap.size,1,none⟩=some (.slice A4 t.ks.length n4):=Qa (i:=1) g2
  have k0:w4.cell? ⟨w.heap.size+1,0,none⟩=some (.slice none 0 0):=Qa (i:=0) g4
  have k1:w4.cell? ⟨w.heap.size+1,1,none⟩=some (.slice none 0 0):=Qa (i:=1) g4
  have y0:=Qb (i:=0) g2
  have y1:=Qb (i:=1) g2
  have z0:=Qb (i:=0) g4
  have z1:=Qb (i:=1) g4
  clear g2 g4
  clear hb4
  cases hd:decide (5<t.dep+1)
  ·have HE:Hid (wrapE t s=0):=by unfold Hid wrapE;rw[hr,hk,hm,hd];rfl
   have HTT:Hid (wrapT t s=.mk [] [(s,t)]):=by unfold Hid wrapT;rw[HE.out,hm];rfl
   have hd1:decide ((5:Int)<(t.dep:Int)+1)=false:=by simp at hd ⊢;omega
   clear hr hk hd
   go_wp2_with fail
   refine (Ja t w4 _ _ (HC.out _ hB4) hN).mono ?_
   rintro e w5 ⟨vc,vd,rfl,hrd,hb5⟩
   obtain⟨A5,n5,A6,n6,rfl,rfl⟩:=Ql hrd
   clear c0 c1 k0 k1 y0 y1 z0 z1 hps HG2 HG4
   have hb5':=hid (hb4'.out.trans (hb5.mono hs4))
   obtain⟨hB5,hs5,g2,g4,hps⟩:=HW.out _ hb5'.out
   have HG2:=hid g2
   have HG4:=hid g4
   have c0:w5.cell? ⟨w.heap.size,0,none⟩=some (.slice A3 t.es.length n3):=Qa (i:=0) g2
   have c1:w5.cell? ⟨w.heap.size,1,none⟩=some (.slice A4 t.ks.length n4):=Qa (i:=1) g2
   have k0:w5.cell? ⟨w.heap.size+1,0,none⟩=some (.slice none 0 0):=Qa (i:=0) g4
   have k1:w5.cell? ⟨w.heap.size+1,1,none⟩=some (.slice none 0 0):=Qa (i:=1) g4
   have y0:=Qb (i:=0) g2
   have y1:=Qb (i:=1) g2
   have z0:=Qb (i:=0) g4
   have z1:=Qb (i:=1) g4
   clear g2 g4
   clear hb5
   have HRD:Hid (t.rda w5 (fun b=>w.heap.size+2<=b/\b<w5.heap.size) (.slice A5 t.es.length n5) (.slice A6 t.ks.length n6)):=Qs (fun _ _=>rfl) (fun b hb=>⟨by have:=hb.1;omega,hb.2⟩) _ _ _ hrd
   clear hrd
   go_wp2_with fail
   obtain⟨r0,r1,r2,r3⟩:=ZZ HG2.out HRD.out (fun b hb=>by have:=hb.1;omega)
   have r4:((w5.setCell ⟨w.heap.size,0,none⟩ (.slice A5 t.es.length n5)).setCell ⟨w.heap.size,1,none⟩ (.slice A6 t.ks.length n6)).heap[w.heap.size]?=some (.cells #[.slice A5 t.es.length n5,.slice A6 t.ks.length n6] 25 (0,0)):=by simpa using Qe (i:=1) (Qe (i:=0) HG2.out (.slice A5 t.es.length n5)) (.slice A6 t.ks.length n6)
   have r5:((w5.setCell ⟨w.heap.size,0,none⟩ (.slice A5 t.es.length n5)).setCell ⟨w.heap.size,1,none⟩ (.slice A6 t.ks.length n6)).heap[w.heap.size+1]?=some (.cells #[.slice none 0 0,.slice none 0 0] 25 (0,0)):=(Below.heap_setCell _ _ _ _ (by simp)).trans ((Below.heap_setCell _ _ _ _ (by simp)).trans HG4.out)
   have r6:Below w.heap.size w ((w5.setCell ⟨w.heap.size,0,none⟩ (.slice A5 t.es.length n5)).setCell ⟨w.heap.size,1,none⟩ (.slice A6 t.ks.length n6)):=(hB5.setCell (by simp) _).setCell (by simp) _
   clear c0 c1 k0 k1 y0 y1 z0 z1 hps HG2 HG4
   generalize ((w5.setCell ⟨w.heap.size,0,none⟩ (.slice A5 t.es.length n5)).setCell ⟨w.heap.size,1,none⟩ (.slice A6 t.ks.length n6))=W5 at *
   go_loopw [6] (fun i wr=>∃ T Ae ne Ak nk,wr.heap[w.heap.size]?=some (.cells #[.slice Ae T.es.length ne,.slice Ak T.ks.length nk] 25 (0,0))/\T.rda wr (fun b=>w.heap.size+2<=b/\b<wr.heap.size) (.slice Ae T.es.length ne) (.slice Ak T.ks.length nk) /\
     wr.heap[w.heap.size+1]?=some (.cells #[.slice none 0 0,.slice none 0 0] 25 (0,0))/\Below w.heap.size w wr/\w.heap.size+2<=wr.heap.size/\((i=.int .i64 0/\T=t)∨(i=.int .i64 (-1)/\Hid (empB t.es.length t.ks.length=false)/\T=.mk [] [(s,t)]))) (fun i _=>(intOf i+1).toNat)
   case atStart=>exact⟨t,A5,n5,A6,n6,r4,by rw[r3];exact r2,r5,r6,by omega,.inl ⟨rfl,rfl⟩⟩
   case round=>
    obtain⟨T,Ae,ne,Ak,nk,hg2,hrd,hg4,hB,hsw,hT⟩:=hrel
    clear r0 r1 r2 r3 r4 r5 r6
    have c0:wr.cell? ⟨w.heap.size,0,none⟩=some (.slice Ae T.es.length ne):=Qa (i:=0) hg2
    have c1:wr.cell? ⟨w.heap.size,1,none⟩=some (.slice Ak T.ks.length nk):=Qa (i:=1) hg2
    have k0:wr.cell? ⟨w.heap.size+1,0,none⟩=some (.slice none 0 0):=Qa (i:=0) hg4
    have k1:wr.cell? ⟨w.heap.size+1,1,none⟩=some (.slice none 0 0):=Qa (i:=1) hg4
    have y0:=Qb (i:=0) hg2
    have y1:=Qb (i:=1) hg2
    have z0:=Qb (i:=0) hg4
    have z1:=Qb (i:=1) hg4
    have HG2:=hid hg2
    have HG4:=hid hg4
    have HRDW:=hid hrd
    clear hg2 hg4 hrd
    rcases hT with⟨rfl,hTt⟩|⟨rfl,hTt⟩
    ·have hTt':=hTt.symm
     subst hTt'
     go_wp2_with fail
     refine (QE t.es.length t.ks.length Ae Ak ne nk wr).mono ?_
     rw[hm]
     rintro e w6 ⟨rfl,hb6⟩
     have hs6:=hb6.size
     have hB6:Below w.heap.size w w6:=hB.trans (hb6.mono (by omega))
     have g2:=(hb6.block _ (by omega)).trans HG2.out
     have g4:=(hb6.block _ (by omega)).trans HG4.out
     clear c0 c1 k0 k1 y0 y1 z0 z1
     have c0:w6.cell? ⟨w.heap.size,0,none⟩=some (.slice Ae t.es.length ne):=Qa (i:=0) g2
     have c1:w6.cell? ⟨w.heap.size,1,none⟩=some (.slice Ak t.ks.length nk):=Qa (i:=1) g2
     have y0:=Qb (i:=0) g2
     have y1:=Qb (i:=1) g2
     have hps6:w6.cell? ⟨bp,op,none⟩=some (.string s):=(hB6.cell hbp).trans HPS.out
     have HG2:=hid g2
     have HG4:=hid g4
     have hlt6:w.heap.size<w6.heap.size:=by omega
     have hne6:w.heap.size≠w6.heap.size:=by omega
     have HM:=hid hm
     clear g2 g4 hm
     go_upto_region 9 with (fail)
     go_region_with (fail)
     all_goals (
      obtain⟨W,hW,a1,a2,a3,a4,a5⟩:=qJx (s:=s) hsz HG2.out HG4.out (by omega) (Qs (fun b hb=>hb6.block b hb.2) (fun b hb=>⟨hb.1,by have:=hb.2;omega⟩) _ _ _ HRDW.out) hB6
      rw[←hW]
      clear hW c0 c1 y0 y1 hps6
      go_wp2_with fail
      go_roundw
      case rel=>exact⟨.mk [] [(s,t)],none,0,some ⟨w6.heap.size,0,none⟩,1,a1,a2,a3,a4,a5,.inr ⟨by go_num,HM,rfl⟩⟩
      case measure=>simp[intOf])
    ·obtain⟨_,hTt⟩:=hTt
     subst hTt
     go_wp2_with fail
     obtain⟨r0,r1,r2,r3⟩:=ZZ HG4.out HRDW.out (fun b hb=>by have:=hb.1;omega)
     have hBW:Below w.heap.size w ((wr.setCell ⟨w.heap.size+1,0,none⟩ (.slice Ae (Tr.mk [] [(s,t)]).es.length ne)).setCell ⟨w.heap.size+1,1,none⟩ (.slice Ak (Tr.mk [] [(s,t)]).ks.length nk)):=(hB.setCell (by simp) _).setCell (by simp) _
     generalize ((wr.setCell ⟨w.heap.size+1,0,none⟩ (.slice Ae (Tr.mk [] [(s,t)]).es.length ne)).setCell ⟨w.heap.size+1,1,none⟩ (.slice Ak (Tr.mk [] [(s,t)]).ks.length nk))=W at *
     refine bodyPost_ret (v:=.tuple #[.agg #[.slice Ae (Tr.mk [] [(s,t)]).es.length ne,.slice Ak (Tr.mk [] [(s,t)]).ks.length nk],.int .i64 0]) (by simp[results,Tryz.results148,go_sem,r0,r1]) rfl ⟨_,_,by rw[HE.out],by rw[HTT.out];exact Qs (fun _ _=>rfl) (fun b hb=>⟨by have:=hb.1;omega,by have:=hb.2;omega⟩) _ _ _ r2,hBW⟩
  ·have HE:Hid (wrapE t s=10):=by unfold Hid wrapE;rw[hr,hk,hm,hd];rfl
   have HTT:Hid (wrapT t s=.mk [] []):=by unfold Hid wrapT;rw[HE.out];rfl
   have hd1:decide ((5:Int)<(t.dep:Int)+1)=true:=by simp at hd ⊢;omega
   clear hr hk hm hd
   go_wp2_with fail
   have hW0:=Qe (i:=1) (Qe (i:=0) HG4.out (.slice none 0 0)) (.slice none 0 0)
   have r0:=(Qa (i:=0) hW0).trans (show _=some (.slice none 0 0) by simp)
   have r1:=(Qa (i:=1) hW0).trans (show _=some (.slice none 0 0) by simp)
   refine bodyPost_ret (v:=.tuple #[.agg #[.slice none 0 0,.slice none 0 0],.int .i64 10]) (by simp[results,Tryz.results148,go_sem,r0,r1]) rfl ⟨_,_,by rw[HE.out],by rw[HTT.out];exact Qp _ _,(hB4.setCell (by simp) _).setCell (by simp) _⟩
 ·have HE:Hid (wrapE t s=0):=by unfold Hid wrapE;rw[hr,hk,hm];rfl
  have HTT:Hid (wrapT t s=t):=by unfold Hid wrapT;rw[HE.out,hm];rfl
  clear hr hk
  go_wp2_with fail
  refine (Ja t w3 _ _ (HC.out _ hB3) hN).mono ?_
  rintro e w5 ⟨vc,vd,rfl,hrd,hb5⟩
  obtain⟨A5,n5,A6,n6,rfl,rfl⟩:=Ql hrd
  clear c0 c1 k0 k1 y0 y1 z0 z1 hps HG2 HG4
  have hb5':=hid (hb3'.out.trans (hb5.mono hs3))
  obtain⟨hB5,hs5,g2,g4,hps⟩:=HW.out _ hb5'.out
  have HG2:=hid g2
  have HG4:=hid g4
  have c0:w5.cell? ⟨w.heap.size,0,none⟩=some (.slice A3 t.es.length n3):=Qa (i:=0) g2
  have c1:w5.cell? ⟨w.heap.size,1,none⟩=some (.slice A4 t.ks.length n4):=Qa (i:=1) g2
  have k0:w5.cell? ⟨w.heap.size+1,0,none⟩=some (.slice none 0 0):=Qa (i:=0) g4
  have k1:w5.cell? ⟨w.heap.size+1,1,none⟩=some (.slice none 0 0):=Qa (i:=1) g4
  have y0:=Qb (i:=0) g2
  have y1:=Qb (i:=1) g2
  have z0:=Qb (i:=0) g4
  have z1:=Qb (i:=1) g4
  clear g2 g4
  clear hb5
  have HRD:Hid (t.rda w5 (fun b=>w.heap.size+2<=b/\b<w5.heap.size) (.slice A5 t.es.length n5) (.slice A6 t.ks.length n6)):=Qs (fun _ _=>rfl) (fun b hb=>⟨by have:=hb.1;omega,hb.2⟩) _ _ _ hrd
  clear hrd
  go_wp2_with fail
  obtain⟨r0,r1,r2,r3⟩:=ZZ HG2.out HRD.out (fun b hb=>by have:=hb.1;omega)
  have r4:((w5.setCell ⟨w.heap.size,0,none⟩ (.slice A5 t.es.length n5)).setCell ⟨w.heap.size,1,none⟩ (.slice A6 t.ks.length n6)).heap[w.heap.size]?=some (.cells #[.slice A5 t.es.length n5,.slice A6 t.ks.length n6] 25 (0,0)):=by simpa using Qe (i:=1) (Qe (i:=0) HG2.out (.slice A5 t.es.length n5)) (.slice A6 t.ks.length n6)
  have r5:((w5.setCell ⟨w.heap.size,0,none⟩ (.slice A5 t.es.length n5)).setCell ⟨w.heap.size,1,none⟩ (.slice A6 t.ks.length n6)).heap[w.heap.size+1]?=some (.cells #[.slice none 0 0,.slice none 0 0] 25 (0,0)):=(Below.heap_setCell _ _ _ _ (by simp)).trans ((Below.heap_setCell _ _ _ _ (by simp)).trans HG4.out)
  have r6:Below w.heap.size w ((w5.setCell ⟨w.heap.size,0,none⟩ (.slice A5 t.es.length n5)).setCell ⟨w.heap.size,1,none⟩ (.slice A6 t.ks.length n6)):=(hB5.setCell (by simp) _).setCell (by simp) _
  clear c0 c1 k0 k1 y0 y1 z0 z1 hps HG2 HG4
  generalize ((w5.setCell ⟨w.heap.size,0,none⟩ (.slice A5 t.es.length n5)).setCell ⟨w.heap.size,1,none⟩ (.slice A6 t.ks.length n6))=W5 at *
  go_loopw [6] (fun i wr=>∃ T Ae ne Ak nk,wr.heap[w.heap.size]?=some (.cells #[.slice Ae T.es.length ne,.slice Ak T.ks.length nk] 25 (0,0))/\T.rda wr (fun b=>w.heap.size+2<=b/\b<wr.heap.size) (.slice Ae T.es.length ne) (.slice Ak T.ks.length nk) /\
    wr.heap[w.heap.size+1]?=some (.cells #[.slice none 0 0,.slice none 0 0] 25 (0,0))/\Below w.heap.size w wr/\w.heap.size+2<=wr.heap.size/\((i=.int .i64 0/\T=t)∨(i=.int .i64 (-1)/\Hid (empB t.es.length t.ks.length=false)/\T=.mk [] [(s,t)]))) (fun i _=>(intOf i+1).toNat)
  case atStart=>exact⟨t,A5,n5,A6,n6,r4,by rw[r3];exact r2,r5,r6,by omega,.inl ⟨rfl,rfl⟩⟩
  case round=>
   obtain⟨T,Ae,ne,Ak,nk,hg2,hrd,hg4,hB,hsw,hT⟩:=hrel
   clear r0 r1 r2 r3 r4 r5 r6
   have c0:wr.cell? ⟨w.heap.size,0,none⟩=some (.slice Ae T.es.length ne):=Qa (i:=0) hg2
   have c1:wr.cell? ⟨w.heap.size,1,none⟩=some (.slice Ak T.ks.length nk):=Qa (i:=1) hg2
   have k0:wr.cell? ⟨w.heap.size+1,0,none⟩=some (.slice none 0 0):=Qa (i:=0) hg4
   have k1:wr.cell? ⟨w.heap.size+1,1,none⟩=some (.slice none 0 0):=Qa (i:=1) hg4
   have y0:=Qb (i:=0) hg2
   have y1:=Qb (i:=1) hg2
   have z0:=Qb (i:=0) hg4
   have z1:=Qb (i:=1) hg4
   have HG2:=hid hg2
   have HG4:=hid hg4
   have HRDW:=hid hrd
   clear hg2 hg4 hrd
   rcases hT with⟨rfl,hTt⟩|⟨rfl,hTt⟩
   ·have hTt':=hTt.symm
    subst hTt'
    go_wp2_with fail
    refine (QE t.es.length t.ks.length Ae Ak ne nk wr).mono ?_
    rw[hm]
    rintro e w6 ⟨rfl,hb6⟩
    have hs6:=hb6.size
    have hB6:Below w.heap.size w w6:=hB.trans (hb6.mono (by omega))
    have g2:=(hb6.block _ (by omega)).trans HG2.out
    have g4:=(hb6.block _ (by omega)).trans HG4.out
    clear c0 c1 k0 k1 y0 y1 z0 z1
    have c0:w6.cell? ⟨w.heap.size,0,none⟩=some (.slice Ae t.es.length ne):=Qa (i:=0) g2
    have c1:w6.cell? ⟨w.heap.size,1,none⟩=some (.slice Ak t.ks.length nk):=Qa (i:=1) g2
    have k0:w6.cell? ⟨w.heap.size+1,0,none⟩=some (.slice none 0 0):=Qa (i:=0) g4
    have k1:w6.cell? ⟨w.heap.size+1,1,none⟩=some (.slice none 0 0):=Qa (i:=1) g4
    have z0:=Qb (i:=0) g4
    have z1:=Qb (i:=1) g4
    have HG4:=hid g4
    clear g2 g4 hm
    go_wp2_with fail
    obtain⟨r0,r1,r2,r3⟩:=ZZ HG4.out (Qs (fun b hb=>hb6.block b hb.2) (fun b hb=>(⟨hb.1,by have:=hb.2;omega⟩:w.heap.size+2<=b/\b<w6.heap.size)) _ _ _ HRDW.out) (fun b hb=>by have:=hb.1;omega)
    have hBW:Below w.heap.size w ((w6.setCell ⟨w.heap.size+1,0,none⟩ (.slice Ae t.es.length ne)).setCell ⟨w.heap.size+1,1,none⟩ (.slice Ak t.ks.length nk)):=(hB6.setCell (by simp) _).setCell (by simp) _
    generalize ((w6.setCell ⟨w.heap.size+1,0,none⟩ (.slice Ae t.es.length ne)).setCell ⟨w.heap.size+1,1,none⟩ (.slice Ak t.ks.length nk))=W at *
    refine bodyPost_ret (v:=.tuple #[.agg #[.slice Ae t.es.length ne,.slice Ak t.ks.length nk],.int .i64 0]) (by simp[results,Tryz.results148,go_sem,r0,r1]) rfl ⟨_,_,by rw[HE.out],by rw[HTT.out];exact Qs (fun _ _=>rfl) (fun b hb=>⟨by have:=hb.1;omega,by have:=hb.2;omega⟩) _ _ _ r2,hBW⟩
   ·exact absurd (hTt.1.symm.trans hm) (by simp)
end Go.Proofs.YtbcoelggdikipaaGreat
