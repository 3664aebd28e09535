/- What the laws need. No condition but those that each lemma states. -/
import Derived.Test.YtbcoelggdikipaaGreatUz4
import Derived.Test.YtbcoelggdikipaaGreatUz7
import Derived.Test.YtbcoelggdikipaaGreatUz5
import Derived.Test.YtbcoelggdikipaaGreatUz2
set_option maxRecDepth 100000
set_option maxHeartbeats 8000000
set_option linter.unusedSimpArgs false
namespace Go.Proofs.YtbcoelggdikipaaGreat
open Go.RowKit
def qZw (w:World)(t:Tr)(e:Ending)(w':World):Prop:=
 ∃ A n vk,e=.returned (.agg #[.slice A t.es.length n,vk])/\OwnD w' w.heap.size 96 3 KdU (fun b=>w.heap.size<=b) vk t.ks/\Below w.heap.size w w'
theorem Jj (t:Tr)(w:World)(ve vk:Value)(h:t.rd w w.heap.size ve vk)(hN:t.sz<=900000) :
  Calls Tryz.prog 72 #[.agg #[ve,vk]] w (qZw w t):=by
 obtain⟨es,ks⟩:=t
 rw[QB]at h
 rw[Tr.sz]at hN
 have hkl:=ZA ks
 have HE:=hid h.1
 obtain⟨⟨A1,n,rfl,_⟩,⟨A2,m,rfl,c1,c2,c3⟩⟩:=h
 unfold Big at c2
 have hb0:Below w.heap.size w ((w.alloc (.cells #[.slice A1 es.length n,.slice A2 ks.length m] 25)).alloc (.cells #[.slice none 0 0,.slice none 0 0] 25)):=((Below.refl _ w).alloc (Nat.le_refl _) _).alloc (by simp) _
 go_enter Tryz.func72,Tryz.ntmps72
 go_wp2_with fail
 refine (Y2 es _ _ (HE.out.imp hb0 hb0.size fun _ _ _ h=>h) (by unfold Few;omega)).mono ?_
 rintro e w1 ⟨v1,rfl,ho1,hb1⟩
 obtain⟨Ae,ce,rfl⟩:=OwnP.shape ho1
 have hs1:=hb1.size
 simp only[World.size_alloc]at hs1
 have hB1:Below w.heap.size w w1:=hb0.trans (hb1.mono (by simp;omega))
 have hg1:w1.heap[w.heap.size+1]?=some (.cells #[.slice none 0 0,.slice none 0 0] 25 (0,0)):=(hb1.block (w.heap.size+1) (by simp)).trans (Qf (by simp))
 have q1:w1.cell? ⟨w.heap.size,1,none⟩=some (.slice A2 ks.length m):=by
  rw[hb1.cell (p:=⟨w.heap.size,1,none⟩) (by simp;omega),World.cell?_alloc_lt _ _ _ (by simp)];simp
 have HG1:=hid hg1
 have HO1:=hid ho1
 have HB1:=hid hb1
 clear hg1 ho1 hb1 hb0
 have hlt0:w.heap.size<w1.heap.size:=by omega
 go_wp2_with fail
 go_loopw [13] (fun i wr=>∃ k:Nat,k<=ks.length/\i=.int .i64 k/\∃ Ak ck,wr.heap[w1.heap.size]?=some (.cells #[.slice Ae es.length ce,.slice Ak (ks.take k).length ck] 25 (0,0)) /\
   OwnD wr (w1.heap.size+1) 96 3 KdU (fun b=>w1.heap.size+1<=b) (.slice Ak (ks.take k).length ck) (ks.take k)/\w1.heap.size+1<=wr.heap.size/\Below w1.heap.size w1 wr) (fun i _=>ks.length-(intOf i).toNat)
 case atStart=>exact⟨0,Nat.zero_le _,rfl,none,0,Qf rfl,OwnP.nil,by simp,(Below.refl _ _).alloc (Nat.le_refl _) _⟩
 case round=>
  obtain⟨k,hk,rfl,Ak,ck,hg,hown,hsz,hb⟩:=hrel
  have hB0:Below w.heap.size w wr:=hB1.trans (hb.mono (by omega))
  have hszk:=hown.lt
  by_cases hlt:k<ks.length
  ·obtain⟨⟨key,t⟩,hx⟩:∃ x,ks[k]?=some x:=⟨_,List.getElem?_eq_getElem hlt⟩
   obtain⟨b,off,rfl,hbB,hc⟩:=c3 (by rintro rfl;simp at hlt)
   obtain⟨cs,⟨ve',vk',rfl,hkb,hrd⟩,_,hu⟩:=hc k _ hx
   obtain⟨A3,n3,A4,n4,rfl,rfl⟩:=Qk hrd
   have hbo:∀ o,wr.cell? ⟨b,o,none⟩=w.cell? ⟨b,o,none⟩:=fun o=>hB0.cell (p:=⟨b,o,none⟩) hbB
   have e0:wr.cell? ⟨b,off+k*3,none⟩=some (.string key):=(hbo _).trans (hu 0 _ rfl)
   have e1:wr.cell? ⟨b,off+k*3+1,none⟩=some (.slice A3 t.es.length n3):=(hbo _).trans (hu 1 _ rfl)
   have e2:wr.cell? ⟨b,off+k*3+2,none⟩=some (.slice A4 t.ks.length n4):=(hbo _).trans (hu 2 _ rfl)
   have hmem:(key,t)∈ks:=List.mem_of_getElem? hx
   have HKB:=hid hkb
   have htz:t.sz<=900000:=by have:=Xn hmem;omega
   have HR:Hid (∀ w',Below w.heap.size w w'->t.rd w' w'.heap.size (.slice A3 t.es.length n3) (.slice A4 t.ks.length n4)):=fun w' hb'=>Qi hb' hb'.size _ _ _ hrd
   have HX:Hid (ks.take (k+1)=ks.take k++[(key,t)]):=by unfold Hid;rw[List.take_add_one,hx];rfl
   have hl1:(ks.take k).length=k:=by simp;omega
   have HL:Hid ((ks.take k).length + [(key,t)].length<=Few):=by unfold Hid Few;rw[hl1];simp;omega
   generalize ks.take k=js at *
   have HIH:=hid (YT t)
   have c0:wr.cell? ⟨w1.heap.size,1,none⟩=some (.slice Ak js.length ck):=Qa (i:=1) hg
   have hne0:w1.heap.size<wr.heap.size:=by omega
   have hne1:wr.heap.size≠w1.heap.size:=by omega
   have HS:Hid (∀ w',Below (wr.heap.size+1) (wr.alloc (.cells #[.string key,.slice A3 t.es.length n3,.slice A4 t.ks.length n4] 96)) w'->w'.cell? ⟨wr.heap.size,0,none⟩=some (.string key)/\w'.cell? ⟨wr.heap.size,1,none⟩=some (.slice A3 t.es.length n3)/\w'.cell? ⟨wr.heap.size,2,none⟩=some (.slice A4 t.ks.length n4)/\w'.cell? ⟨w1.heap.size,1,none⟩=some (.slice Ak js.length ck)):=fun w' hb'=>by
    refine⟨?_,?_,?_,?_⟩
    ·rw[hb'.cell (p:=⟨wr.heap.size,0,none⟩) (by simp)];simp
    ·rw[hb'.cell (p:=⟨wr.heap.size,1,none⟩) (by simp)];simp
    ·rw[hb'.cell (p:=⟨wr.heap.size,2,none⟩) (by simp)];simp
    ·rw[hb'.cell (p:=⟨w1.heap.size,1,none⟩) (by show w1.heap.size<_;omega),World.cell?_alloc_lt _ _ _ hne0];exact c0
   have HOWN:Hid (∀ W,Below wr.heap.size wr W->OwnD W (w1.heap.size+1) 96 3 KdU (fun b=>w1.heap.size+1<=b) (.slice Ak js.length ck) js):=fun W hW=>hown.grow KdU.mon hW
   have HGW:Hid (∀ W,Below wr.heap.size wr W->W.heap[w1.heap.size]?=some (.cells #[.slice Ae es.length ce,.slice Ak js.length ck] 25 (0,0))):=fun W hW=>(hW.block _ hne0).trans hg
   have hWK:Hid (∀ W,Below (wr.heap.size+1) (wr.alloc (.cells #[.string key,.slice A3 t.es.length n3,.slice A4 t.ks.length n4] 96)) W->Below wr.heap.size wr W):=fun W hW=>((Below.refl _ wr).alloc (Nat.le_refl _) _).trans (hW.mono (by omega))
   have hw1:w1.heap.size<w1.heap.size+1:=by omega
   have HRW:=hid (HR.out _ (hB0.trans ((hWK.out _ ((Below.refl (wr.heap.size+1) (wr.alloc (.cells #[.string key,.slice A3 t.es.length n3,.slice A4 t.ks.length n4] 96))).drew)).mono (by omega))))
   clear hu hbo hx hc c3 hrd hkb hmem hg hown hl1
   go_upto_region 5 with (fail)
   obtain⟨z0,z1,z2,z3⟩:=HS.out _ (Below.refl _ _)
   obtain⟨y0,y1,y2,y3⟩:=HS.out _ ((Below.refl (wr.heap.size+1) (wr.alloc (.cells #[.string key,.slice A3 t.es.length n3,.slice A4 t.ks.length n4] 96))).drew)
   go_region_law
    (first
        |(go_simp;go_at_call 72;go_loud ((refine (HIH.out _ _ _ HRW.out htz).mono ?_);rintro e w3 ⟨ve3,vk3,rfl,hrd,hb3⟩;obtain⟨Av,nv,Aw,nw,rfl,rfl⟩:=Ql hrd;have hb3':=hid (((Below.refl (wr.heap.size+1) (wr.alloc (.cells #[.string key,.slice A3 t.es.length n3,.slice A4 t.ks.length n4] 96))).drew).trans (hb3.mono (by simp)));have hs3:=hb3'.out.size;simp only[World.size_alloc]at hs3;obtain⟨p0,p1,p2,p3⟩:=HS.out w3 hb3'.out;have a0:=fun (o:Obj)=>(HS.out (w3.alloc o) (hb3'.out.alloc (by omega) o)).1;have a1:=fun (o:Obj)=>(HS.out (w3.alloc o) (hb3'.out.alloc (by omega) o)).2.1; have a2:=fun (o:Obj)=>(HS.out (w3.alloc o) (hb3'.out.alloc (by omega) o)).2.2.1;have a3:=fun (o:Obj)=>(HS.out (w3.alloc o) (hb3'.out.alloc (by omega) o)).2.2.2))
        |(have hQ3:=hb3';go_loud ((refine KV (v:=.slice Ak js.length ck) rfl (.tmp 18) (.tmp 25) _ rfl KdU.mon eiKid (by decide) (by decide) rfl (HOWN.out _ (hWK.out _ (hb3'.out.alloc (by omega) _))) rfl (Ys hrd HKB.out (fun b hb=>⟨hb.2,by have:=hb.1;simp only[World.size_drew,World.size_alloc]at *;omega,by rw[World.size_alloc];have:=hb.2;omega,fun e=>by have:=hszk b e;have:=hb.1;simp only[World.size_drew,World.size_alloc]at *;omega⟩) _ (by rw[World.size_alloc];omega)) HL.out (by rw[World.size_alloc];omega) ?_);intro v1 w4 hown4 hb4 _ _;have hsh4:∃ A c,v1=.slice A (js++[(key,t)]).length c:=OwnP.shape hown4;obtain⟨A1,c1,hv1⟩:=hsh4;subst hv1;have hg34:=hid ((hb4.block _ hw1).trans (HGW.out _ (hWK.out _ (hb3'.out.alloc (by omega) _))));have hc4:w4.cell? ⟨w1.heap.size,1,none⟩=some (.slice Ak js.length ck):=Qa (i:=1) hg34.out;have hf4:=Qb (i:=1) hg34.out)))
   all_goals go_wp2_with fail
   all_goals (
    have hW:=hWK.out _ (hb3'.out.alloc (by omega) (.cells #[.string key,.slice Av t.es.length nv,.slice Aw t.ks.length nw] 96))
    have hz4:=hb4.size
    rw[World.size_alloc]at hz4
    refine⟨⟨k+1,by omega,by go_num,A1,c1,?_,?_,?_,?_⟩,by simp[intOf];omega⟩
    ·rw[HX.out];simpa using Qe (i:=1) hg34.out (.slice A1 (js.length+1) c1)
    ·rw[HX.out];exact OwnD.setOther hown4 KdU.mon hw1 (by simp) _
    ·simp[World.setCell];omega
    ·exact ((hb.trans (hW.mono (by omega))).trans (hb4.mono (by omega))).setCell (by simp) _)
  ·obtain rfl:k=ks.length:=by omega
   rw[List.take_of_length_le (Nat.le_refl _)]at hg hown hszk
   have c0:wr.cell? ⟨w1.heap.size,0,none⟩=some (.slice Ae es.length ce):=Qa (i:=0) hg
   have c1:wr.cell? ⟨w1.heap.size,1,none⟩=some (.slice Ak ks.length ck):=Qa (i:=1) hg
   have hg2:wr.heap[w.heap.size+1]?=some (.cells #[.slice none 0 0,.slice none 0 0] 25 (0,0)):=(hb.block _ (by omega)).trans HG1.out
   have d0:wr.cell? ⟨w.heap.size+1,0,none⟩=some (.slice none 0 0):=Qa (i:=0) hg2
   have d1:wr.cell? ⟨w.heap.size+1,1,none⟩=some (.slice none 0 0):=Qa (i:=1) hg2
   have z0:=Qb (i:=0) hg2
   have z1:=Qb (i:=1) hg2
   go_wp2_with fail
   have hW0:=Qe (i:=1) (Qe (i:=0) hg2 (.slice Ae es.length ce)) (.slice Ak ks.length ck)
   have hKW:∀ b,w.heap.size+2<=b->((wr.setCell ⟨w.heap.size+1,0,none⟩ (.slice Ae es.length ce)).setCell ⟨w.heap.size+1,1,none⟩ (.slice Ak ks.length ck)).heap[b]?=wr.heap[b]?:=fun b hb=>(Below.heap_setCell _ _ _ _ (by simp;omega)).trans (Below.heap_setCell _ _ _ _ (by simp;omega))
   have hSW:((wr.setCell ⟨w.heap.size+1,0,none⟩ (.slice Ae es.length ce)).setCell ⟨w.heap.size+1,1,none⟩ (.slice Ak ks.length ck)).heap.size=wr.heap.size:=by simp[World.setCell]
   have hBW:Below w.heap.size w ((wr.setCell ⟨w.heap.size+1,0,none⟩ (.slice Ae es.length ce)).setCell ⟨w.heap.size+1,1,none⟩ (.slice Ak ks.length ck)):=(hB0.setCell (by simp) _).setCell (by simp) _
   clear c0 c1 d0 d1 z0 z1
   generalize ((wr.setCell ⟨w.heap.size+1,0,none⟩ (.slice Ae es.length ce)).setCell ⟨w.heap.size+1,1,none⟩ (.slice Ak ks.length ck))=W at *
   have r0:W.cell? ⟨w.heap.size+1,0,none⟩=some (.slice Ae es.length ce):=(Qa (i:=0) hW0).trans (by simp)
   have r1:W.cell? ⟨w.heap.size+1,1,none⟩=some (.slice Ak ks.length ck):=(Qa (i:=1) hW0).trans (by simp)
   refine bodyPost_ret (v:=.agg #[.slice Ae es.length ce,.slice Ak ks.length ck]) (by simp[results,Tryz.results72,go_sem,r0,r1]) rfl ⟨_,_,_,rfl,?_,hBW⟩
   exact ((OwnP.keep hown fun q hq=>hKW q (by have:=(OwnP.lt hown q hq).1;omega)).mono (by omega)).imp fun x _ cs hx=>KdU.mon.up (fun b hb'=>hKW b (by have:=hb'.1;omega)) (fun b hb'=>⟨by have:=hb'.1;omega,by rw[hSW];exact hb'.2.1,hb'.2.2⟩) hx
theorem JG (p:ByteArray->Bool)(gf:Nat)(lb:Array Value)(ks:List Kd)(v:Value)(w:World)(base:Nat)(hbase:base<=w.heap.size)(h:OwnD w base 96 3 KdU (fun b=>base<=b) v ks)(hl:ks.length<=900000)(ht:Kh gf lb p w base) :
  Calls Tryz.prog 73 #[v,.func (.func gf) #[] lb] w fun e w'=>∃ v',e=.returned v'/\SlU w' (fun b=>base<=b/\b<w'.heap.size) 3 (KdU w' (fun b=>base<=b/\b<w'.heap.size)) v' (kp p ks)/\Below base w w':=by
 have HI:=hid (Kt p gf lb ks v w ((OwnD.sl h KdU.mon (by unfold Big;omega)).imp (Below.refl _ _) (Nat.le_refl _) fun x _ cs ⟨ve,vk,e1,e2,e3⟩=>⟨ve,vk,e1,e2,(qQ1 _ ve vk).2 (QJ (fun _ _=>rfl) (fun b hb=>hb.2) _ ve vk e3)⟩) (ht.kid hbase))
 go_enter Tryz.func73,Tryz.ntmps73
 obtain⟨A,cap,hv⟩:=OwnP.shape h
 have H:=hid h
 clear h
 subst hv
 go_wp2_with fail
 refine HI.out.mono ?_
 rcases VL p ks with⟨hi,hk⟩|⟨i0,hi,hi0,hk0,hk1⟩
 ·rintro e w1 ⟨rfl,hb1⟩
  rw[hi]
  have HB:=hid hb1
  have HK:=hid hk
  clear hi hk hb1
  go_wp2_with fail
  go_ret
  refine⟨_,rfl,?_,HB.out.mono hbase⟩
  rw[HK.out]
  have h2:=OwnD.grow H.out KdU.mon HB.out
  exact (OwnP.slu h2 (by unfold Big;omega)).up (fun _ _=>rfl) (fun b hb=>⟨hb.1,hb.2.1⟩) fun x _ cs hx=>KdU.mon.up (fun _ _=>rfl) (fun b hb=>⟨hb.1,hb.2.1⟩) hx
 ·rintro e w1 ⟨rfl,hb1⟩
  rw[hi]
  have hne:ks≠[]:=by rintro rfl;simp at hi0
  obtain⟨g,cap',hv',hg1,hg2,_⟩:=OwnP.form H.out hne
  simp only[Value.slice.injEq]at hv'
  obtain⟨rfl,_,rfl⟩:=hv'
  have hs1:=hb1.size
  have HB:=hid hb1
  have hR0:∃ css0,RowK w1 base g ks.length cap (KdU w (fun b=>base<=b/\b<w.heap.size/\b≠g)) (kp p (ks.take (i0+1))) (i0+1) css0/\∀ (q:Nat) x,ks[q]?=some x->∃ cs,css0[q]?=some cs/\KdU w (fun b=>base<=b/\b<w.heap.size/\b≠g) x cs:=by
   obtain⟨css,k1,k2⟩:=OwnP.keep (w':=w1) H.out fun q hq=>HB.out.block q (OwnP.lt H.out q hq).2
   have k1':Encs 3 (KdU w (fun b=>base<=b/\b<w.heap.size/\b≠g)) ks css:=by
    refine⟨k1.1,fun j x hx=>?_⟩
    obtain⟨cs,a1,a2,a3⟩:=k1.2 j x hx
    exact⟨cs,a1,KdU.mon.up (fun _ _=>rfl) (fun b hb=>⟨hb.1,hb.2.1,fun e=>hb.2.2 (by rw[e];rfl)⟩) a2,a3⟩
   refine⟨css,⟨css,k1.1,k1.len,fun q x hx=>?_,fun _ _=>rfl,k2⟩,fun q x hx=>?_⟩
   ·rw[hk1,List.getElem?_take]at hx
    split at hx
    ·exact k1'.2 q x hx
    ·cases hx
   ·obtain⟨cs,a1,a2,_⟩:=k1'.2 q x hx
    exact⟨cs,a1,a2⟩
  obtain⟨css0,hR,hC⟩:=hR0
  have HR:=hid hR
  have HC:=hid hC
  have hn1:((i0:Int)=-1)=False:=eq_false (by omega)
  have hn2:((i0:Int)==-1)=false:=beq_eq_false_iff_ne.2 (by omega)
  have hL0:(kp p (ks.take (i0+1))).length=i0:=by rw[hk1];simp;omega
  clear hi hk0 hk1 hR hC hb1 hne
  go_wp2_with fail
  go_loopw [5,6] (fun i j wr=>∃ m:Nat,m<=ks.length/\j=.int .i64 m/\i=.int .i64 ((kp p (ks.take m)).length:Nat)/\(kp p (ks.take m)).length<m/\RowK wr base g ks.length cap (KdU w (fun b=>base<=b/\b<w.heap.size/\b≠g)) (kp p (ks.take m)) m css0/\Below base w wr/\w.heap.size<=wr.heap.size/\(∀ b,b<w.heap.size->b≠g->wr.heap[b]?=w.heap[b]?)) (fun _ j _=>ks.length-(intOf j).toNat)
  case atStart=>exact⟨i0+1,hi0,by go_num,by rw[hL0],by rw[hL0];omega,HR.out,HB.out.mono hbase,hs1,fun b hb _=>HB.out.block b hb⟩
  case round=>
   obtain⟨m,hm,rfl,rfl,hlm,hrow,hbw,hsz,hkb⟩:=hrel
   have HROW:=hid hrow
   have HBW:=hid hbw
   have HKB:=hid hkb
   by_cases hlt:m<ks.length
   ·obtain⟨⟨key,t⟩,hx⟩:∃ x,ks[m]?=some x:=⟨_,List.getElem?_eq_getElem hlt⟩
    obtain⟨cs,hcs,ve',vk',rfl,hkey,hrd⟩:=HC.out m _ hx
    obtain⟨A3,n3,A4,n4,rfl,rfl⟩:=Ql hrd
    have e0:wr.cell? ⟨g,m*3,none⟩=some (.string key):=HROW.out.cell (Nat.le_refl _) hlt hcs (i:=0) rfl (by omega)
    have e1:wr.cell? ⟨g,m*3+1,none⟩=some (.slice A3 t.es.length n3):=HROW.out.cell (Nat.le_refl _) hlt hcs (i:=1) rfl (by omega)
    have e2:wr.cell? ⟨g,m*3+2,none⟩=some (.slice A4 t.ks.length n4):=HROW.out.cell (Nat.le_refl _) hlt hcs (i:=2) rfl (by omega)
    have HE:Hid (KdU w (fun b=>base<=b/\b<w.heap.size/\b≠g) (key,t) [.string key,.slice A3 t.es.length n3,.slice A4 t.ks.length n4]):=⟨_,_,rfl,hkey,hrd⟩
    have HT:=hid (VK (p:=p) hx)
    obtain⟨L,HL⟩:∃ L,Hid (kp p (ks.take m)=L):=⟨_,rfl⟩
    rw[HL.out]at HT HROW hlm ⊢
    have HKEY:=hid hkey
    clear hrow hbw hkb hx hcs hkey hrd
    have hb3:base<=wr.heap.size:=by omega
    have HBA:=hid (HBW.out.alloc (Nat.le_trans hbase hsz) (.cells #[.string key,.slice A3 t.es.length n3,.slice A4 t.ks.length n4] 96))
    have HS:Hid (∀ w',Below (wr.heap.size+1) (wr.alloc (.cells #[.string key,.slice A3 t.es.length n3,.slice A4 t.ks.length n4] 96)) w'->w'.cell? ⟨wr.heap.size,0,none⟩=some (.string key)/\w'.cell? ⟨wr.heap.size,1,none⟩=some (.slice A3 t.es.length n3)/\w'.cell? ⟨wr.heap.size,2,none⟩=some (.slice A4 t.ks.length n4)/\w'.heap[g]?=wr.heap[g]?):=fun w' hb'=>by
     refine⟨?_,?_,?_,?_⟩
     ·rw[hb'.cell (p:=⟨wr.heap.size,0,none⟩) (by simp)];simp
     ·rw[hb'.cell (p:=⟨wr.heap.size,1,none⟩) (by simp)];simp
     ·rw[hb'.cell (p:=⟨wr.heap.size,2,none⟩) (by simp)];simp
     ·exact (hb'.block g (by omega)).trans (Qh (by omega))
    obtain⟨eg,htc⟩:=ht
    have HCALL:=hid (htc key A3 A4 t.es.length n3 t.ks.length n4 (wr.alloc (.cells #[.string key,.slice A3 t.es.length n3,.slice A4 t.ks.length n4] 96)) HKEY.out HBA.out)
    clear htc
    have hgl:g<wr.heap.size:=by omega
    cases hp:p key
    ·have HT2:Hid (kp p (ks.take (m+1))=L++[(key,t)]):=hid (by have:=HT.out;simpa[hp] using this)
     rw[hp]at HCALL
     clear hp HT
     go_wp2_with (go_at_fn gf;refine HCALL.out.mono ?_;rintro e w3 ⟨rfl,hb3'⟩;obtain⟨p0,p1,p2,hg3⟩:=HS.out w3 (hb3'.mono (by simp));have hrow3:=hid (HROW.out.keep hg3);obtain⟨x0,s0⟩:=Option.isSome_iff_exists.1 (hrow3.out.wr (j:=L.length*3) (by omega));obtain⟨x1,s1⟩:=Option.isSome_iff_exists.1 (hrow3.out.wr (j:=L.length*3+1) (by omega));obtain⟨x2,s2⟩:=Option.isSome_iff_exists.1 (hrow3.out.wr (j:=L.length*3+2) (by omega));have f0:=hrow3.out.frz (L.length*3);have f1:=hrow3.out.frz (L.length*3+1);have f2:=hrow3.out.frz (L.length*3+2))
     have hs3:=hb3'.size
     simp only[World.size_alloc]at hs3
     have HB3:=hid (HBA.out.trans (hb3'.mono (by simp;omega)))
     have hK3:∀ b,b<wr.heap.size->w3.heap[b]?=wr.heap[b]?:=fun b hb=>(hb3'.block b (by simp;omega)).trans (Qh hb)
     go_roundw
     case rel=>
      refine⟨m+1,by omega,by go_num,?_,?_,?_,((HB3.out.setCell (p:=⟨g,L.length*3,none⟩) hg1 _).setCell (p:=⟨g,L.length*3+1,none⟩) hg1 _).setCell (p:=⟨g,L.length*3+2,none⟩) hg1 _,by simp[World.setCell];omega,fun b hb hbg=>?_⟩
      ·rw[HT2.out];simp
      ·rw[HT2.out];simp;omega
      ·rw[HT2.out];exact hrow3.out.put (by omega) (by omega) HE.out
      ·exact (Below.heap_setCell _ _ _ _ hbg).trans ((Below.heap_setCell _ _ _ _ hbg).trans ((Below.heap_setCell _ _ _ _ hbg).trans ((hK3 b (by omega)).trans (HKB.out b hb hbg))))
     case measure=>simp[intOf];omega
    ·have HT2:Hid (kp p (ks.take (m+1))=L):=hid (by have:=HT.out;simpa[hp] using this)
     rw[hp]at HCALL
     clear hp HT
     go_wp2_with (go_at_fn gf;refine HCALL.out.mono ?_;rintro e w3 ⟨rfl,hb3'⟩;obtain⟨p0,p1,p2,hg3⟩:=HS.out w3 (hb3'.mono (by simp)))
     have hs3:=hb3'.size
     simp only[World.size_alloc]at hs3
     have HB3:=hid (HBA.out.trans (hb3'.mono (by simp;omega)))
     have hK3:∀ b,b<wr.heap.size->w3.heap[b]?=wr.heap[b]?:=fun b hb=>(hb3'.block b (by simp;omega)).trans (Qh hb)
     go_roundw
     case rel=>
      refine⟨m+1,by omega,by go_num,?_,?_,?_,HB3.out,by omega,fun b hb hbg=>(hK3 b (by omega)).trans (HKB.out b hb hbg)⟩
      ·rw[HT2.out]
      ·rw[HT2.out];omega
      ·rw[HT2.out];exact (HROW.out.keep hg3).skip
     case measure=>simp[intOf];omega
   ·obtain rfl:m=ks.length:=by omega
    have hmi:¬(ks.length:Int)<(ks.length:Int):=by omega
    obtain⟨L,HL⟩:∃ L,Hid (kp p (ks.take ks.length)=L):=⟨_,rfl⟩
    have HL2:Hid (kp p ks=L):=by have:=HL.out;rwa [List.take_of_length_le (Nat.le_refl _)]at this
    rw[HL.out]at hlm HROW ⊢
    obtain⟨css,_,_,_,_,hown⟩:=hrow
    have hcap:ks.length<=cap:=by
     rcases hown.2 with⟨h0,_⟩|⟨g',cap',cur,hv',_,_,hnc,_⟩
     ·simp at h0
     ·simp only[Value.slice.injEq]at hv'
      rw[hv'.2.2];exact hnc
    clear hown hbw hkb
    go_wp2_with (refine Jh rfl (.tmp 38) _ 96 rfl Tryz.underlying23 qZo (by simp[Value.cells,Value.oneCell']) rfl rfl (by decide) ?_ ?_ ?_ ?_)
    ·omega
    ·exact fun j hj=>HROW.out.wr (by omega)
    ·exact fun j _=>HROW.out.frz _
    intro vs hvs
    go_wp2_with fail
    go_ret
    refine⟨_,rfl,?_,Zx g vs _ _ hg1 HBW.out⟩
    rw[HL2.out]
    obtain⟨css,k1,k2,k3,_,k5⟩:=HROW.out
    refine⟨_,_,rfl,by omega,by unfold Big;omega,fun hn=>⟨g,0,rfl,⟨⟨hg1,by rw[Q3];omega⟩,UFb.sets _ _ _ HROW.out.frz⟩,fun j x hx=>?_⟩⟩
    obtain⟨cs,c1,c2,c3⟩:=k3 j x hx
    have hj:=(List.getElem?_eq_some_iff.1 hx).1
    refine⟨cs,KdU.mon.up (fun b hb=>(Zw g vs _ _ hb.2.2).trans (HKB.out b hb.2.1 hb.2.2)) (fun b hb=>⟨hb.1,by rw[Q3];have:=hb.2.1;omega⟩) c2,c3,fun i u hi=>?_⟩
    have hi3:i<3:=by rw[←c3];exact (List.getElem?_eq_some_iff.1 hi).1
    rw[World.cell?_setCells_out g vs _ _ _ (fun _ _=>.inl (by simp;omega)),show 0+j*3+i=j*3+i by omega,k5.cellAt (j*3+i) (by omega),QN css k2 j i hi3,c1]
    exact hi
theorem KM (t:Tr)(keys:List ByteArray)(ve vk vl:Value)(w:World)(h:t.rd w w.heap.size ve vk)(hk:SlP w w.heap.size 1 StE vl keys)(hN:t.sz<=900000) :
  Calls Tryz.prog 36 #[.agg #[ve,vk],vl] w (RetTU w (YS t keys)):=by
 have HC:Hid (∀ w',Below w.heap.size w w'->t.rd w' w'.heap.size ve vk):=fun w' hb=>Qi hb hb.size _ _ _ h
 have HK:Hid (∀ w',Below w.heap.size w w'->SlP w' w'.heap.size 1 StE vl keys):=fun w' hb=>hk.imp hb hb.size fun _ _ _ h=>h
 obtain⟨A3,n3,A4,n4,rfl,rfl⟩:=Qk h
 obtain⟨Al,nl,rfl,_⟩:=hk
 have hkl:t.ks.length<=900000:=by obtain⟨es,ks⟩:=t;rw[Tr.sz]at hN;have:=ZA ks;show ks.length<=_;omega
 have hb0:Below w.heap.size w (((w.alloc (.cells #[.slice A3 t.es.length n3,.slice A4 t.ks.length n4] 25)).alloc (.cells #[.slice Al keys.length nl] 30)).alloc (.cells #[.slice none 0 0,.slice none 0 0] 25)):=(((Below.refl _ w).alloc (Nat.le_refl _) _).alloc (by simp) _).alloc (by simp;omega) _
 have HX:Hid (∀ W,Below (w.heap.size+3) (((w.alloc (.cells #[.slice A3 t.es.length n3,.slice A4 t.ks.length n4] 25)).alloc (.cells #[.slice Al keys.length nl] 30)).alloc (.cells #[.slice none 0 0,.slice none 0 0] 25)) W->(Below w.heap.size w W/\w.heap.size+3<=W.heap.size/\W.heap[w.heap.size]?=some (.cells #[.slice A3 t.es.length n3,.slice A4 t.ks.length n4] 25 (0,0))/\W.heap[w.heap.size+1]?=some (.cells #[.slice Al keys.length nl] 30 (0,0))/\W.heap[w.heap.size+2]?=some (.cells #[.slice none 0 0,.slice none 0 0] 25 (0,0)))):=fun W hW=>
  ⟨hb0.trans (hW.mono (by omega)),by have:=hW.size;simpa using this,(hW.block _ (by omega)).trans ((Qh (by simp;omega)).trans ((Qh (by simp)).trans (Qf rfl))),(hW.block _ (by omega)).trans ((Qh (by simp)).trans (Qf (by simp))),(hW.block _ (by omega)).trans (Qf (by simp))⟩
 clear h
 have hn1:w.heap.size+2≠w.heap.size:=by omega
 have hn2:w.heap.size+1≠w.heap.size:=by omega
 go_enter Tryz.func36,Tryz.ntmps36
 go_wp2_with fail
 refine (Z6 t _ _ _ (HC.out _ hb0)).mono ?_
 rintro e w1 ⟨rfl,hb1⟩
 have HB1:=hid (hb1.mono (show w.heap.size+3<=_ by simp))
 obtain⟨hB1,hs1,g0,g1,g2⟩:=HX.out _ HB1.out
 have HG0:=hid g0
 have HG2:=hid g2
 have HBB:=hid hB1
 have c0:w1.cell? ⟨w.heap.size,0,none⟩=some (.slice A3 t.es.length n3):=Qa (i:=0) g0
 have c1:w1.cell? ⟨w.heap.size,1,none⟩=some (.slice A4 t.ks.length n4):=Qa (i:=1) g0
 have k0:w1.cell? ⟨w.heap.size+2,0,none⟩=some (.slice none 0 0):=Qa (i:=0) g2
 have k1:w1.cell? ⟨w.heap.size+2,1,none⟩=some (.slice none 0 0):=Qa (i:=1) g2
 have z0:=Qb (i:=0) g2
 have z1:=Qb (i:=1) g2
 clear g0 g1 g2 hb1 hB1 hb0
 cases hr:t.right 5
 ·have HTT:Hid (YS t keys=.mk [] []):=by unfold Hid YS;rw[hr];rfl
  clear hr
  go_wp2_with fail
  have hW0:=Qe (i:=1) (Qe (i:=0) HG2.out (.slice none 0 0)) (.slice none 0 0)
  have r0:=(Qa (i:=0) hW0).trans (show _=some (.slice none 0 0) by simp)
  have r1:=(Qa (i:=1) hW0).trans (show _=some (.slice none 0 0) by simp)
  refine bodyPost_ret (v:=.agg #[.slice none 0 0,.slice none 0 0]) (by simp[results,Tryz.results36,go_sem,r0,r1]) rfl ⟨_,_,rfl,by rw[HTT.out];exact YQ _ _,(HBB.out.setCell (p:=⟨w.heap.size+2,0,none⟩) (by simp) _).setCell (p:=⟨w.heap.size+2,1,none⟩) (by simp) _⟩
 ·have HTT:Hid (YS t keys=.mk [] (kp (offK keys) t.ks)):=by unfold Hid YS;rw[hr];rfl
  clear hr
  go_wp2_with fail
  refine (Jj t _ _ _ (HC.out _ HBB.out) hN).mono ?_
  rintro e w2 ⟨A5,n5,vk5,rfl,ho2,hb2⟩
  obtain⟨A6,n6,hv6⟩:=OwnP.shape ho2
  subst hv6
  have HB2:=hid (HB1.out.trans (hb2.mono hs1))
  obtain⟨hB2,hs2,g0,g1,g2⟩:=HX.out _ HB2.out
  have HO2:=hid ho2
  have HG0':=hid g0
  have HG1':=hid g1
  have HG2':=hid g2
  have HBB2:=hid hB2
  have hs12:=hb2.size
  clear c0 c1 k0 k1 z0 z1
  have c0:w2.cell? ⟨w.heap.size,0,none⟩=some (.slice A3 t.es.length n3):=Qa (i:=0) g0
  have c1:w2.cell? ⟨w.heap.size,1,none⟩=some (.slice A4 t.ks.length n4):=Qa (i:=1) g0
  have y0:=Qb (i:=0) g0
  have y1:=Qb (i:=1) g0
  clear g0 g1 g2 ho2 hb2 hB2
  have hW0:=hid (Qe (i:=1) (Qe (i:=0) HG0'.out (.slice A5 t.es.length n5)) (.slice A6 t.ks.length n6))
  have HBV:=hid ((HBB2.out.setCell (p:=⟨w.heap.size,0,none⟩) (by simp) (.slice A5 t.es.length n5)).setCell (p:=⟨w.heap.size,1,none⟩) (by simp) (.slice A6 t.ks.length n6))
  have HKV:Hid (∀ b,b≠w.heap.size->((w2.setCell ⟨w.heap.size,0,none⟩ (.slice A5 t.es.length n5)).setCell ⟨w.heap.size,1,none⟩ (.slice A6 t.ks.length n6)).heap[b]?=w2.heap[b]?):=fun b hb=>(Below.heap_setCell _ _ _ _ hb).trans (Below.heap_setCell _ _ _ _ hb)
  have HSV:Hid (((w2.setCell ⟨w.heap.size,0,none⟩ (.slice A5 t.es.length n5)).setCell ⟨w.heap.size,1,none⟩ (.slice A6 t.ks.length n6)).heap.size=w2.heap.size):=by unfold Hid;simp[World.setCell]
  have c8:((w2.setCell ⟨w.heap.size,0,none⟩ (.slice A5 t.es.length n5)).setCell ⟨w.heap.size,1,none⟩ (.slice A6 t.ks.length n6)).cell? ⟨w.heap.size,1,none⟩=some (.slice A6 t.ks.length n6):=(Qa (i:=1) hW0.out).trans (by simp)
  go_wp2_with fail
  generalize ((w2.setCell ⟨w.heap.size,0,none⟩ (.slice A5 t.es.length n5)).setCell ⟨w.heap.size,1,none⟩ (.slice A6 t.ks.length n6))=V at *
  have HKV':=HKV.out
  have hSV:=HSV.out
  have HOV:OwnD V w1.heap.size 96 3 KdU (fun b=>w1.heap.size<=b) (.slice A6 t.ks.length n6) t.ks:=(OwnP.keep HO2.out fun q hq=>HKV' q (by have:=(OwnP.lt HO2.out q hq).1;omega)).imp fun x _ cs hx=>KdU.mon.up (fun b hb=>HKV' b (by have:=hb.1;omega)) (fun b hb=>⟨hb.1,by rw[hSV];exact hb.2.1,hb.2.2⟩) hx
  have HT:Kh 74 #[.pointer (some ⟨w.heap.size+1,0,none⟩)] (offK keys) V w1.heap.size:=
   ⟨enters_of Tryz.func74 (by kernel_rfl) rfl,fun x A A' n c n' c' W _ hW=>JF keys x A A' n c n' c' (w.heap.size+1) Al nl W (Qa (i:=0) ((hW.block (w.heap.size+1) (by omega)).trans ((HKV' _ (by omega)).trans HG1'.out))) (by have:=hW.size;omega) (HK.out W (HBV.out.trans (hW.mono (by omega))))⟩
  refine (JG (offK keys) _ _ t.ks _ V w1.heap.size (by omega) HOV hkl HT).mono ?_
  rintro e w3 ⟨v7,rfl,hr7,hb7⟩
  have HR7:=hid hr7
  obtain⟨A7,n7,hv7,_⟩:=hr7
  subst hv7
  have hs3:=hb7.size
  have HG3:=hid ((hb7.block (w.heap.size+2) (by omega)).trans ((HKV' (w.heap.size+2) (by omega)).trans HG2'.out))
  have HB3:=hid (HBV.out.trans (hb7.mono (by omega)))
  have k0:w3.cell? ⟨w.heap.size+2,0,none⟩=some (.slice none 0 0):=Qa (i:=0) HG3.out
  have k1:w3.cell? ⟨w.heap.size+2,1,none⟩=some (.slice none 0 0):=Qa (i:=1) HG3.out
  have z0:=Qb (i:=0) HG3.out
  have z1:=Qb (i:=1) HG3.out
  clear hb7 HOV HT HKV' hW0 c8 c0 c1 y0 y1
  go_wp2_with fail
  have hW0:=Qe (i:=1) (Qe (i:=0) HG3.out (.slice none 0 0)) (.slice A7 (kp (offK keys) t.ks).length n7)
  have r0:=(Qa (i:=0) hW0).trans (show _=some (.slice none 0 0) by simp)
  have r1:=(Qa (i:=1) hW0).trans (show _=some (.slice A7 (kp (offK keys) t.ks).length n7) by simp)
  refine bodyPost_ret (v:=.agg #[.slice none 0 0,.slice A7 (kp (offK keys) t.ks).length n7]) (by simp[results,Tryz.results36,go_sem,r0,r1]) rfl ⟨_,_,rfl,?_,(HB3.out.setCell (p:=⟨w.heap.size+2,0,none⟩) (by simp) _).setCell (p:=⟨w.heap.size+2,1,none⟩) (by simp) _⟩
  rw[HTT.out,XF]
  have hK3:∀ b,w1.heap.size<=b->((w3.setCell ⟨w.heap.size+2,0,none⟩ (.slice none 0 0)).setCell ⟨w.heap.size+2,1,none⟩ (.slice A7 (kp (offK keys) t.ks).length n7)).heap[b]?=w3.heap[b]?:=fun b hb=>(Below.heap_setCell _ _ _ _ (by simp;omega)).trans (Below.heap_setCell _ _ _ _ (by simp;omega))
  have hS3:((w3.setCell ⟨w.heap.size+2,0,none⟩ (.slice none 0 0)).setCell ⟨w.heap.size+2,1,none⟩ (.slice A7 (kp (offK keys) t.ks).length n7)).heap.size=w3.heap.size:=by simp[World.setCell]
  exact⟨SlU.nil,HR7.out.up (fun b hb=>hK3 b hb.1) (fun b hb=>⟨by have:=hb.1;omega,by rw[hS3];exact hb.2⟩) fun x _ cs hx=>KdU.mon.up (fun b hb=>hK3 b hb.1) (fun b hb=>⟨by have:=hb.1;omega,by rw[hS3];exact hb.2⟩) hx⟩
theorem KN (t:Tr)(c:List Sp)(keys:List ByteArray)(ve vk vc vl:Value)(w:World)(h:t.rd w w.heap.size ve vk)(hc:SlP w w.heap.size 3 SpE vc c)(hkk:SlP w w.heap.size 1 StE vl keys)(hN:t.sz<=4000)(hN':c.length<=20000) :
  Calls Tryz.prog 10 #[.agg #[ve,vk,vc],vl] w (qQ5 w (conT t c keys) (conC t c) (conE t c)):=by
 have HC:Hid (∀ w',Below w.heap.size w w'->(t.rd w' w'.heap.size ve vk/\SlP w' w'.heap.size 3 SpE vc c)):=fun w' hb=>⟨Qi hb hb.size _ _ _ h,hc.imp hb hb.size fun _ _ _ h=>h⟩
 obtain⟨A3,n3,A4,n4,rfl,rfl⟩:=Qk h
 have HKS:Hid (∀ w',Below w.heap.size w w'->SlP w' w'.heap.size 1 StE vl keys):=fun w' hb=>hkk.imp hb hb.size fun _ _ _ h=>h
 obtain⟨A5,n5,rfl,_⟩:=hc
 obtain⟨Al,nl,rfl,_⟩:=hkk
 have hb0:Below w.heap.size w ((w.alloc (.cells #[.slice A3 t.es.length n3,.slice A4 t.ks.length n4,.slice A5 c.length n5] 29)).alloc (.cells #[.slice none 0 0,.slice none 0 0,.slice none 0 0] 29)):=((Below.refl _ w).alloc (Nat.le_refl _) _).alloc (by simp) _
 have HB0:=hid hb0
 have HX:Hid (∀ W,Below (w.heap.size+2) ((w.alloc (.cells #[.slice A3 t.es.length n3,.slice A4 t.ks.length n4,.slice A5 c.length n5] 29)).alloc (.cells #[.slice none 0 0,.slice none 0 0,.slice none 0 0] 29)) W->Below w.heap.size w W/\W.heap[w.heap.size+1]?=some (.cells #[.slice none 0 0,.slice none 0 0,.slice none 0 0] 29 (0,0))/\w.heap.size+2<=W.heap.size/\(W.cell? ⟨w.heap.size,0,none⟩=some (.slice A3 t.es.length n3)/\W.cell? ⟨w.heap.size,1,none⟩=some (.slice A4 t.ks.length n4)/\W.cell? ⟨w.heap.size,2,none⟩=some (.slice A5 c.length n5))):=fun W hW=>by
  have g0:W.heap[w.heap.size]?=some (.cells #[.slice A3 t.es.length n3,.slice A4 t.ks.length n4,.slice A5 c.length n5] 29 (0,0)):=(hW.block _ (by omega)).trans ((Qh (by simp)).trans (Qf rfl))
  exact⟨HB0.out.trans (hW.mono (by omega)),(hW.block _ (by omega)).trans (Qf (by simp)),by have:=hW.size;simpa using this,Qa (i:=0) g0,Qa (i:=1) g0,Qa (i:=2) g0⟩
 clear h hb0
 go_enter Tryz.func10,Tryz.ntmps10
 obtain⟨_,_,_,q0,q1,q2⟩:=HX.out _ (Below.refl _ _)
 go_wp2_with fail
 refine (Qq t c _ _ _ _ (HC.out _ HB0.out).1 (HC.out _ HB0.out).2 hN hN').mono ?_
 clear q0 q1 q2
 cases hr:caR t c
 ·rintro e w1 ⟨rfl,hb1⟩
  have hX:=hb1.mono (show w.heap.size+2<=_ by simp)
  obtain⟨hB,g,hs,q0,q1,q2⟩:=HX.out _ hX
  have HG:=hid g
  have e1:conT t c keys=.mk [] []:=by unfold conT;rw[hr];rfl
  have e2:conC t c=[]:=by unfold conC;rw[hr];rfl
  have HE3:Hid (conE t c=1):=by unfold Hid conE;rw[hr];rfl
  have HE1:=hid e1
  have HE2:=hid e2
  have k0:w1.cell? ⟨w.heap.size+1,0,none⟩=some (.slice none 0 0):=Qa (i:=0) g
  have k1:w1.cell? ⟨w.heap.size+1,1,none⟩=some (.slice none 0 0):=Qa (i:=1) g
  have k2:w1.cell? ⟨w.heap.size+1,2,none⟩=some (.slice none 0 0):=Qa (i:=2) g
  have z0:=Qb (i:=0) g
  have z1:=Qb (i:=1) g
  have z2:=Qb (i:=2) g
  clear g hr hb1 hX e1 e2
  go_wp2_with fail
  obtain⟨r0,r1,r2,hK,hS⟩:=box3 HG.out (.slice none 0 0) (.slice none 0 0) (.slice none 0 0)
  refine bodyPost_ret (v:=.tuple #[.agg #[.slice none 0 0,.slice none 0 0,.slice none 0 0],.int .i64 1]) (by simp[results,Tryz.results10,go_sem,r0,r1,r2]) rfl ⟨_,_,_,by rw[HE3.out],by rw[HE1.out];exact YQ _ _,by rw[HE2.out];exact SlU.nil,((hB.setCell (by simp) _).setCell (by simp) _).setCell (by simp) _⟩
 ·rintro e w1 ⟨rfl,hb1⟩
  have hX:=hb1.mono (show w.heap.size+2<=_ by simp)
  have HX1:=hid hX
  obtain⟨hB,_,hs,q0,q1,q2⟩:=HX.out _ hX
  have e1:conT t c keys=.mk [] (kp (offK keys) t.ks):=by unfold conT;rw[hr];rfl
  have e2:conC t c=c:=by unfold conC;rw[hr];rfl
  have HE3:Hid (conE t c=0):=by unfold Hid conE;rw[hr];rfl
  have HE1:=hid e1
  have HE2:=hid e2
  have HTO:Hid (YS t keys=.mk [] (kp (offK keys) t.ks)):=by unfold Hid YS;rw[ZW hr];rfl
  have hcl:c.length<=Few:=by unfold Few;omega
  have hneA:w.heap.size+1≠w.heap.size:=by omega
  clear hb1 hX hr e1 e2
  go_upto_region 3 with (fail)
  go_region_held3 (fun w'=>w'.cell? ⟨w.heap.size,0,none⟩=some (.slice A3 t.es.length n3)/\w'.cell? ⟨w.heap.size,1,none⟩=some (.slice A4 t.ks.length n4)/\w'.cell? ⟨w.heap.size,2,none⟩=some (.slice A5 c.length n5))
   (first|go_keep|exact (HX.out _ hbk3.out).2.2.2|exact (HX.out _ hbk2.out).2.2.2)
   (first
       |(go_at_call 36;go_loud ((refine (KM t keys _ _ _ _ (HC.out _ (HX.out _ (HX1.out.trans (by go_grown))).1).1 (HKS.out _ (HX.out _ (HX1.out.trans (by go_grown))).1) (by omega)).mono ?_);rintro e w2 ⟨ve1,vk1,rfl,hrd1,hb⟩;rw[HTO.out]at hrd1;obtain⟨Av,nv,Aw,nw,rfl,rfl⟩:=Ql hrd1;have HR:=hid hrd1;have hbk2:Hid (Below (w.heap.size+2) ((w.alloc (.cells #[.slice A3 t.es.length n3,.slice A4 t.ks.length n4,.slice A5 c.length n5] 29)).alloc (.cells #[.slice none 0 0,.slice none 0 0,.slice none 0 0] 29)) w2):=hid ((HX1.out.trans (Below.trans (by go_grown) (hb.mono (by first|omega|(simp;done)|(simp;omega))))));clear hrd1 hb))
       |(go_at_call 37;go_loud ((refine (Y3 c _ w2 (HC.out _ (HX.out _ hbk2.out).1).2 hcl).mono ?_);rintro e w3 ⟨v2,rfl,ho2,hb2⟩;obtain⟨A7,c7,hv7⟩:=ho2.shape;subst hv7;have HO2:=hid ho2;have hbk3:=hid (hbk2.out.trans (hb2.mono (HX.out _ hbk2.out).2.2.1));have HG2:=hid (HX.out _ hbk3.out).2.1;have k0:w3.cell? ⟨w.heap.size+1,0,none⟩=some (.slice none 0 0):=Qa (i:=0) HG2.out;have k1:w3.cell? ⟨w.heap.size+1,1,none⟩=some (.slice none 0 0):=Qa (i:=1) HG2.out;have k2:w3.cell? ⟨w.heap.size+1,2,none⟩=some (.slice none 0 0):=Qa (i:=2) HG2.out;have z0:=Qb (i:=0) HG2.out;have z1:=Qb (i:=1) HG2.out;have z2:=Qb (i:=2) HG2.out;have HB2:=hid hb2;clear ho2 hb2)))
  all_goals (
   go_wp2_with fail
   have hs3:w.heap.size+2<=w3.heap.size:=(HX.out _ hbk3.out).2.2.1
   have hs2:w.heap.size+2<=w2.heap.size:=(HX.out _ hbk2.out).2.2.1
   have hs23:=HB2.out.size
   obtain⟨r0,r1,r2,hK,hS⟩:=box3 HG2.out (.slice Av (Tr.mk [] (kp (offK keys) t.ks)).es.length nv) (.slice Aw (Tr.mk [] (kp (offK keys) t.ks)).ks.length nw) (.slice A7 c.length c7)
   have hBW:Below w.heap.size w (((w3.setCell ⟨w.heap.size+1,0,none⟩ (.slice Av (Tr.mk [] (kp (offK keys) t.ks)).es.length nv)).setCell ⟨w.heap.size+1,1,none⟩ (.slice Aw (Tr.mk [] (kp (offK keys) t.ks)).ks.length nw)).setCell ⟨w.heap.size+1,2,none⟩ (.slice A7 c.length c7)):=(((HX.out _ hbk3.out).1.setCell (by simp) _).setCell (by simp) _).setCell (by simp) _
   clear k0 k1 k2 z0 z1 z2
   generalize (((w3.setCell ⟨w.heap.size+1,0,none⟩ (.slice Av (Tr.mk [] (kp (offK keys) t.ks)).es.length nv)).setCell ⟨w.heap.size+1,1,none⟩ (.slice Aw (Tr.mk [] (kp (offK keys) t.ks)).ks.length nw)).setCell ⟨w.heap.size+1,2,none⟩ (.slice A7 c.length c7))=W at *
   refine bodyPost_ret (v:=.tuple #[.agg #[.slice Av (Tr.mk [] (kp (offK keys) t.ks)).es.length nv,.slice Aw (Tr.mk [] (kp (offK keys) t.ks)).ks.length nw,.slice A7 c.length c7],.int .i64 0]) (by simp[results,Tryz.results10,go_sem,r0,r1,r2]) rfl ⟨_,_,_,by rw[HE3.out],?_,?_,hBW⟩
   ·rw[HE1.out]
    exact Qu (fun b hb=>(hK b (by have:=hb.1;simp only[World.size_drew]at this;omega)).trans (HB2.out.block b hb.2)) (fun b hb=>⟨by have:=hb.1;simp only[World.size_drew]at this;omega,by have:=hb.2;omega⟩) _ _ _ HR.out
   ·rw[HE2.out]
    exact (HO2.out.slu (by unfold Big;omega)).up (fun b hb=>hK b (by have:=hb.1;omega)) (fun b hb=>⟨by have:=hb.1;omega,by have:=hb.2.1;omega⟩) (fun _ _ _ h=>h))
def cloT (t:Tr)(c:List Sp):Tr:=if caR t c then t else .mk [] []
def cloC (t:Tr)(c:List Sp):List Sp:=if caR t c then c else []
theorem Jk (t:Tr)(ve vk:Value)(w:World)(h:t.rd w w.heap.size ve vk)(hr:t.right 5=true)(hN:t.sz<=900000) :
  Calls Tryz.prog 45 #[.agg #[ve,vk]] w (RetTU w t):=by
 have HC:Hid (∀ w',Below w.heap.size w w'->t.rd w' w'.heap.size ve vk):=fun w' hb=>Qi hb hb.size _ _ _ h
 obtain⟨A3,n3,A4,n4,rfl,rfl⟩:=Qk h
 have hb0:Below w.heap.size w ((w.alloc (.cells #[.slice A3 t.es.length n3,.slice A4 t.ks.length n4] 25)).alloc (.cells #[.slice none 0 0,.slice none 0 0] 25)):=((Below.refl _ w).alloc (Nat.le_refl _) _).alloc (by simp) _
 have HB0:=hid hb0
 have HW:Hid (∀ w',Below (w.heap.size+2) ((w.alloc (.cells #[.slice A3 t.es.length n3,.slice A4 t.ks.length n4] 25)).alloc (.cells #[.slice none 0 0,.slice none 0 0] 25)) w'->Below w.heap.size w w'/\w.heap.size+2<=w'.heap.size/\w'.heap[w.heap.size]?=some (.cells #[.slice A3 t.es.length n3,.slice A4 t.ks.length n4] 25 (0,0))/\w'.heap[w.heap.size+1]?=some (.cells #[.slice none 0 0,.slice none 0 0] 25 (0,0))):=fun w' hb=>by
  have hB:Below w.heap.size w w':=HB0.out.trans (hb.mono (by omega))
  exact⟨hB,by have:=hb.size;simpa using this,(hb.block _ (by omega)).trans ((Qh (by simp)).trans (Qf rfl)),(hb.block _ (by omega)).trans (Qf (by simp))⟩
 have HR:=hid hr
 clear h hr hb0
 go_enter Tryz.func45,Tryz.ntmps45
 go_wp2_with fail
 refine (Z6 t _ _ _ (HC.out _ HB0.out)).mono ?_
 rw[HR.out]
 rintro e w1 ⟨rfl,hb1⟩
 have HX:=hid (hb1.mono (show w.heap.size+2<=_ by simp))
 obtain⟨hB1,hs1,g2,g4⟩:=HW.out _ HX.out
 obtain⟨k0,k1⟩:=bx2 g2
 clear hb1 g2 g4
 go_wp2_with fail
 refine (YT t w1 _ _ (HC.out _ hB1) hN).mono ?_
 rintro e w2 ⟨ve2,vk2,rfl,hrd,hb2⟩
 obtain⟨Av,nv,Aw,nw,rfl,rfl⟩:=Ql hrd
 have hs2:=hb2.size
 obtain⟨hB2,_,_,g4⟩:=HW.out _ (HX.out.trans (hb2.mono hs1))
 have HG4':=hid g4
 have HRU:=hid hrd
 clear hb2 hrd g4 k0 k1
 have k0:w2.cell? ⟨w.heap.size+1,0,none⟩=some (.slice none 0 0):=Qa (i:=0) HG4'.out
 have k1:w2.cell? ⟨w.heap.size+1,1,none⟩=some (.slice none 0 0):=Qa (i:=1) HG4'.out
 have z0:=Qb (i:=0) HG4'.out
 have z1:=Qb (i:=1) HG4'.out
 go_wp2_with fail
 obtain⟨r0,r1,hrW,hsW⟩:=VJ HG4'.out HRU.out (fun b hb=>by have:=hb.1;omega)
 refine bodyPost_ret (v:=.agg #[.slice Av t.es.length nv,.slice Aw t.ks.length nw]) (by simp[results,Tryz.results45,go_sem,r0,r1]) rfl ⟨_,_,rfl,?_,(hB2.setCell (by simp) _).setCell (by simp) _⟩
 exact Qu (fun _ _=>rfl) (fun b hb=>⟨by have:=hb.1;omega,by rw[hsW];exact hb.2⟩) _ _ _ hrW
theorem JH (t:Tr)(c:List Sp)(ve vk vc:Value)(w:World)(h:t.rd w w.heap.size ve vk)(hc:SlP w w.heap.size 3 SpE vc c)(hN:t.sz<=4000)(hN':c.length<=20000) :
  Calls Tryz.prog 15 #[.agg #[ve,vk,vc]] w (RetCU w (cloT t c) (cloC t c)):=by
 have HC:Hid (∀ w',Below w.heap.size w w'->(t.rd w' w'.heap.size ve vk/\SlP w' w'.heap.size 3 SpE vc c)):=fun w' hb=>⟨Qi hb hb.size _ _ _ h,hc.imp hb hb.size fun _ _ _ h=>h⟩
 obtain⟨A3,n3,A4,n4,rfl,rfl⟩:=Qk h
 obtain⟨A5,n5,rfl,_⟩:=hc
 have hb0:Below w.heap.size w ((w.alloc (.cells #[.slice A3 t.es.length n3,.slice A4 t.ks.length n4,.slice A5 c.length n5] 29)).alloc (.cells #[.slice none 0 0,.slice none 0 0,.slice none 0 0] 29)):=((Below.refl _ w).alloc (Nat.le_refl _) _).alloc (by simp) _
 have HB0:=hid hb0
 have HX:Hid (∀ W,Below (w.heap.size+2) ((w.alloc (.cells #[.slice A3 t.es.length n3,.slice A4 t.ks.length n4,.slice A5 c.length n5] 29)).alloc (.cells #[.slice none 0 0,.slice none 0 0,.slice none 0 0] 29)) W->Below w.heap.size w W/\W.heap[w.heap.size+1]?=some (.cells #[.slice none 0 0,.slice none 0 0,.slice none 0 0] 29 (0,0))/\w.heap.size+2<=W.heap.size/\(W.cell? ⟨w.heap.size,0,none⟩=some (.slice A3 t.es.length n3)/\W.cell? ⟨w.heap.size,1,none⟩=some (.slice A4 t.ks.length n4)/\W.cell? ⟨w.heap.size,2,none⟩=some (.slice A5 c.length n5))):=fun W hW=>by
  have g0:W.heap[w.heap.size]?=some (.cells #[.slice A3 t.es.length n3,.slice A4 t.ks.length n4,.slice A5 c.length n5] 29 (0,0)):=(hW.block _ (by omega)).trans ((Qh (by simp)).trans (Qf rfl))
  exact⟨HB0.out.trans (hW.mono (by omega)),(hW.block _ (by omega)).trans (Qf (by simp)),by have:=hW.size;simpa using this,Qa (i:=0) g0,Qa (i:=1) g0,Qa (i:=2) g0⟩
 clear h hb0
 go_enter Tryz.func15,Tryz.ntmps15
 obtain⟨_,_,_,q0,q1,q2⟩:=HX.out _ (Below.refl _ _)
 go_wp2_with fail
 refine (Qq t c _ _ _ _ (HC.out _ HB0.out).1 (HC.out _ HB0.out).2 hN hN').mono ?_
 clear q0 q1 q2
 cases hr:caR t c
 ·rintro e w1 ⟨rfl,hb1⟩
  have hX:=hb1.mono (show w.heap.size+2<=_ by simp)
  obtain⟨hB,g,hs,q0,q1,q2⟩:=HX.out _ hX
  have HG:=hid g
  have e1:cloT t c=.mk [] []:=by unfold cloT;rw[hr];rfl
  have e2:cloC t c=[]:=by unfold cloC;rw[hr];rfl
  have HE1:=hid e1
  have HE2:=hid e2
  have k0:w1.cell? ⟨w.heap.size+1,0,none⟩=some (.slice none 0 0):=Qa (i:=0) g
  have k1:w1.cell? ⟨w.heap.size+1,1,none⟩=some (.slice none 0 0):=Qa (i:=1) g
  have k2:w1.cell? ⟨w.heap.size+1,2,none⟩=some (.slice none 0 0):=Qa (i:=2) g
  have z0:=Qb (i:=0) g
  have z1:=Qb (i:=1) g
  have z2:=Qb (i:=2) g
  clear g hr hb1 hX e1 e2
  go_wp2_with fail
  obtain⟨r0,r1,r2,hK,hS⟩:=box3 HG.out (.slice none 0 0) (.slice none 0 0) (.slice none 0 0)
  refine bodyPost_ret (v:=.agg #[.slice none 0 0,.slice none 0 0,.slice none 0 0]) (by simp[results,Tryz.results15,go_sem,r0,r1,r2]) rfl ⟨_,_,_,rfl,by rw[HE1.out];exact YQ _ _,by rw[HE2.out];exact SlU.nil,((hB.setCell (by simp) _).setCell (by simp) _).setCell (by simp) _⟩
 ·rintro e w1 ⟨rfl,hb1⟩
  have hX:=hb1.mono (show w.heap.size+2<=_ by simp)
  have HX1:=hid hX
  obtain⟨hB,_,hs,q0,q1,q2⟩:=HX.out _ hX
  have e1:cloT t c=t:=by unfold cloT;rw[hr];rfl
  have e2:cloC t c=c:=by unfold cloC;rw[hr];rfl
  have HE1:=hid e1
  have HE2:=hid e2
  have HR5:=hid (ZW hr)
  have hcl:c.length<=Few:=by unfold Few;omega
  have hneA:w.heap.size+1≠w.heap.size:=by omega
  clear hb1 hX hr e1 e2
  go_upto_region 3 with (fail)
  go_region_held3 (fun w'=>w'.cell? ⟨w.heap.size,0,none⟩=some (.slice A3 t.es.length n3)/\w'.cell? ⟨w.heap.size,1,none⟩=some (.slice A4 t.ks.length n4)/\w'.cell? ⟨w.heap.size,2,none⟩=some (.slice A5 c.length n5))
   (first|go_keep|exact (HX.out _ hbk3.out).2.2.2|exact (HX.out _ hbk2.out).2.2.2)
   (first
       |(go_at_call 45;go_loud ((refine (Jk t _ _ _ (HC.out _ (HX.out _ (HX1.out.trans (by go_grown))).1).1 HR5.out (by omega)).mono ?_);rintro e w2 ⟨ve1,vk1,rfl,hrd1,hb⟩;obtain⟨Av,nv,Aw,nw,rfl,rfl⟩:=Ql hrd1;have HR:=hid hrd1;have hbk2:Hid (Below (w.heap.size+2) ((w.alloc (.cells #[.slice A3 t.es.length n3,.slice A4 t.ks.length n4,.slice A5 c.length n5] 29)).alloc (.cells #[.slice none 0 0,.slice none 0 0,.slice none 0 0] 29)) w2):=hid ((HX1.out.trans (Below.trans (by go_grown) (hb.mono (by first|omega|(simp;done)|(simp;omega))))));clear hrd1 hb))
       |(go_at_call 37;go_loud ((refine (Y3 c _ w2 (HC.out _ (HX.out _ hbk2.out).1).2 hcl).mono ?_);rintro e w3 ⟨v2,rfl,ho2,hb2⟩;obtain⟨A7,c7,hv7⟩:=ho2.shape;subst hv7;have HO2:=hid ho2;have hbk3:=hid (hbk2.out.trans (hb2.mono (HX.out _ hbk2.out).2.2.1));have HG2:=hid (HX.out _ hbk3.out).2.1;have k0:w3.cell? ⟨w.heap.size+1,0,none⟩=some (.slice none 0 0):=Qa (i:=0) HG2.out;have k1:w3.cell? ⟨w.heap.size+1,1,none⟩=some (.slice none 0 0):=Qa (i:=1) HG2.out;have k2:w3.cell? ⟨w.heap.size+1,2,none⟩=some (.slice none 0 0):=Qa (i:=2) HG2.out;have z0:=Qb (i:=0) HG2.out;have z1:=Qb (i:=1) HG2.out;have z2:=Qb (i:=2) HG2.out;have HB2:=hid hb2;clear ho2 hb2)))
  all_goals (
   go_wp2_with fail
   have hs3:w.heap.size+2<=w3.heap.size:=(HX.out _ hbk3.out).2.2.1
   have hs2:w.heap.size+2<=w2.heap.size:=(HX.out _ hbk2.out).2.2.1
   have hs23:=HB2.out.size
   obtain⟨r0,r1,r2,hK,hS⟩:=box3 HG2.out (.slice Av t.es.length nv) (.slice Aw t.ks.length nw) (.slice A7 c.length c7)
   have hBW:Below w.heap.size w (((w3.setCell ⟨w.heap.size+1,0,none⟩ (.slice Av t.es.length nv)).setCell ⟨w.heap.size+1,1,none⟩ (.slice Aw t.ks.length nw)).setCell ⟨w.heap.size+1,2,none⟩ (.slice A7 c.length c7)):=(((HX.out _ hbk3.out).1.setCell (by simp) _).setCell (by simp) _).setCell (by simp) _
   clear k0 k1 k2 z0 z1 z2
   generalize (((w3.setCell ⟨w.heap.size+1,0,none⟩ (.slice Av t.es.length nv)).setCell ⟨w.heap.size+1,1,none⟩ (.slice Aw t.ks.length nw)).setCell ⟨w.heap.size+1,2,none⟩ (.slice A7 c.length c7))=W at *
   refine bodyPost_ret (v:=.agg #[.slice Av t.es.length nv,.slice Aw t.ks.length nw,.slice A7 c.length c7]) (by simp[results,Tryz.results15,go_sem,r0,r1,r2]) rfl ⟨_,_,_,rfl,?_,?_,hBW⟩
   ·rw[HE1.out]
    exact Qu (fun b hb=>(hK b (by have:=hb.1;simp only[World.size_drew]at this;omega)).trans (HB2.out.block b hb.2)) (fun b hb=>⟨by have:=hb.1;simp only[World.size_drew]at this;omega,by have:=hb.2;omega⟩) _ _ _ HR.out
   ·rw[HE2.out]
    exact (HO2.out.slu (by unfold Big;omega)).up (fun b hb=>hK b (by have:=hb.1;omega)) (fun b hb=>⟨by have:=hb.1;omega,by have:=hb.2.1;omega⟩) (fun _ _ _ h=>h))
theorem YU (t:Tr):∀ (w:World) (ve vk:Value),t.rd w w.heap.size ve vk->t.sz<=900000 ->
  Calls Tryz.prog 44 #[.agg #[ve,vk]] w (RetTU w t):=by
 induction t using Tr.ind with
 |h es ks ih=>
 intro w ve vk h hN
 rw[QB]at h
 rw[Tr.sz]at hN
 have hkl:=ZA ks
 have HE:=hid h.1
 obtain⟨⟨A1,n,rfl,a1,a2,_⟩,⟨A2,m,rfl,c1,c2,c3⟩⟩:=h
 unfold Big at c2 a2
 have hb0:Below w.heap.size w (((w.alloc (.cells #[.slice A1 es.length n,.slice A2 ks.length m] 25)).alloc (.cells #[.slice none 0 0,.slice none 0 0] 25)).alloc (.cells #[.slice none 0 0,.slice none 0 0] 25)):=(((Below.refl _ w).alloc (Nat.le_refl _) _).alloc (by simp) _).alloc (by simp;omega) _
 have HB0:=hid hb0
 have HX:Hid (∀ W,Below (w.heap.size+2) (((w.alloc (.cells #[.slice A1 es.length n,.slice A2 ks.length m] 25)).alloc (.cells #[.slice none 0 0,.slice none 0 0] 25)).alloc (.cells #[.slice none 0 0,.slice none 0 0] 25)) W->Below w.heap.size w W/\W.heap[w.heap.size]?=some (.cells #[.slice A1 es.length n,.slice A2 ks.length m] 25 (0,0))/\W.heap[w.heap.size+1]?=some (.cells #[.slice none 0 0,.slice none 0 0] 25 (0,0))):=fun W hW=>
  ⟨HB0.out.trans (hW.mono (by omega)),(hW.block _ (by omega)).trans ((Qh (by simp;omega)).trans ((Qh (by simp)).trans (Qf rfl))),(hW.block _ (by omega)).trans ((Qh (by simp)).trans (Qf (by simp)))⟩
 go_enter Tryz.func44,Tryz.ntmps44
 go_wp2_with (at_builtin;go_loud ((with_reducible refine Qj (base:=w.heap.size+3) rfl (.tmp 6) (.tmp 8) _ rfl Zy (by decide) (by decide) (fun _ _ h=>h.one) rfl (OwnP.nil (w:=(((w.alloc (.cells #[.slice A1 es.length n,.slice A2 ks.length m] 25)).alloc (.cells #[.slice none 0 0,.slice none 0 0] 25)).alloc (.cells #[.slice none 0 0,.slice none 0 0] 25)))) rfl (HE.out.imp HB0.out HB0.out.size fun _ _ _ h=>h) (by unfold Few;simp;omega) (by simp) ?_);intro v1 w1 hown1 hb1 _;rw[List.nil_append]at hown1;obtain⟨Ae,ce,hv1⟩:=OwnP.shape hown1;subst hv1;have hs1:=hb1.size;simp only[World.size_alloc]at hs1;have g2:w1.heap[w.heap.size+2]?=some (.cells #[.slice none 0 0,.slice none 0 0] 25 (0,0)):=(hb1.block (w.heap.size+2) (by omega)).trans (Qf (by simp));have d0:w1.cell? ⟨w.heap.size+2,0,none⟩=some (.slice none 0 0):=Qa (i:=0) g2;have z0:w1.frozen? ⟨w.heap.size+2,0,none⟩=false:=Qb (i:=0) g2;have q1:w1.cell? ⟨w.heap.size,1,none⟩=some (.slice A2 ks.length m):=Qa (i:=1) (HX.out _ (hb1.mono (by omega))).2.1;have HG2:=hid g2;have HO1:=hid hown1;have HB1:=hid hb1;clear g2 hown1 hb1))
 have hn2:w.heap.size+2≠w.heap.size:=by omega
 have hlt2:w.heap.size+2<w1.heap.size:=by omega
 go_loopw [14] (fun i wr=>∃ k:Nat,k<=ks.length/\i=.int .i64 k/\∃ Ak ck,wr.heap[w.heap.size+2]?=some (.cells #[.slice Ae es.length ce,.slice Ak (ks.take k).length ck] 25 (0,0)) /\
   OwnD wr w1.heap.size 96 3 KdU (fun b=>w1.heap.size<=b) (.slice Ak (ks.take k).length ck) (ks.take k)/\w1.heap.size<=wr.heap.size/\Below (w.heap.size+2) (((w.alloc (.cells #[.slice A1 es.length n,.slice A2 ks.length m] 25)).alloc (.cells #[.slice none 0 0,.slice none 0 0] 25)).alloc (.cells #[.slice none 0 0,.slice none 0 0] 25)) wr/\(∀ b,w.heap.size+2<b->b<w1.heap.size->wr.heap[b]?=w1.heap[b]?)) (fun i _=>ks.length-(intOf i).toNat)
 case atStart=>
  exact⟨0,Nat.zero_le _,rfl,none,0,by simpa using Qe (i:=0) HG2.out (.slice Ae es.length ce),OwnP.nil,by simp[World.setCell],(HB1.out.mono (by omega)).setCell (by simp) _,fun b hb _=>Below.heap_setCell _ _ _ _ (by simp;omega)⟩
 case round=>
  obtain⟨k,hk,rfl,Ak,ck,hg,hown,hsz,hb,hkp⟩:=hrel
  obtain⟨hB0,hgt,hgr⟩:=HX.out wr hb
  have hszk:=hown.lt
  clear q1 d0 z0
  by_cases hlt:k<ks.length
  ·obtain⟨⟨key,t⟩,hx⟩:∃ x,ks[k]?=some x:=⟨_,List.getElem?_eq_getElem hlt⟩
   obtain⟨b,off,rfl,hbB,hc⟩:=c3 (by rintro rfl;simp at hlt)
   obtain⟨cs,⟨ve',vk',rfl,hkb,hrd⟩,_,hu⟩:=hc k _ hx
   obtain⟨A3,n3,A4,n4,rfl,rfl⟩:=Qk hrd
   have hmem:(key,t)∈ks:=List.mem_of_getElem? hx
   have HKB:=hid hkb
   have htz:t.sz<=900000:=by have:=Xn hmem;omega
   have HX1:Hid (ks.take (k+1)=ks.take k++[(key,t)]):=by unfold Hid;rw[List.take_add_one,hx];rfl
   have hl1:(ks.take k).length=k:=by simp;omega
   have HL:Hid ((ks.take k).length + [(key,t)].length<=Few):=by unfold Hid Few;rw[hl1];simp;omega
   generalize ks.take k=js at *
   have HIH:=hid (ih key t hmem)
   have HC:Hid (∀ W,Below w1.heap.size wr W->(W.cell? ⟨w.heap.size+2,1,none⟩=some (.slice Ak js.length ck)/\W.cell? ⟨w.heap.size,1,none⟩=some (.slice (some ⟨b,off,none⟩) ks.length m)/\W.cell? ⟨b,off+k*3,none⟩=some (.string key)/\W.cell? ⟨b,off+k*3+1,none⟩=some (.slice A3 t.es.length n3)/\W.cell? ⟨b,off+k*3+2,none⟩=some (.slice A4 t.ks.length n4))):=fun W hW=>by
    have hbo:∀ o,W.cell? ⟨b,o,none⟩=w.cell? ⟨b,o,none⟩:=fun o=>(hW.cell (p:=⟨b,o,none⟩) (by show b<_;omega)).trans (hB0.cell (p:=⟨b,o,none⟩) hbB)
    exact⟨Qa (i:=1) ((hW.block _ hlt2).trans hg),Qa (i:=1) ((hW.block _ (by omega)).trans hgt),(hbo _).trans (hu 0 _ rfl),(hbo _).trans (hu 1 _ rfl),(hbo _).trans (hu 2 _ rfl)⟩
   have HOWN:Hid (∀ W,Below wr.heap.size wr W->OwnD W w1.heap.size 96 3 KdU (fun b=>w1.heap.size<=b) (.slice Ak js.length ck) js):=fun W hW=>hown.grow KdU.mon hW
   have HGW:Hid (∀ W,Below w1.heap.size wr W->W.heap[w.heap.size+2]?=some (.cells #[.slice Ae es.length ce,.slice Ak js.length ck] 25 (0,0))):=fun W hW=>(hW.block _ hlt2).trans hg
   have HRW:Hid (t.rd wr.drew wr.drew.heap.size (.slice A3 t.es.length n3) (.slice A4 t.ks.length n4)):=Qi hB0.drew hB0.drew.size _ _ _ hrd
   have hki:(k:Int)<(ks.length:Int):=by omega
   clear hu hx hc c3 hrd hkb hmem ih hg hown hl1
   go_upto_region 6 with (fail)
   refine QD (S:=fun W=>(W.cell? ⟨w.heap.size+2,1,none⟩=some (.slice Ak js.length ck)/\W.cell? ⟨w.heap.size,1,none⟩=some (.slice (some ⟨b,off,none⟩) ks.length m)/\W.cell? ⟨b,off+k*3,none⟩=some (.string key)/\W.cell? ⟨b,off+k*3+1,none⟩=some (.slice A3 t.es.length n3)/\W.cell? ⟨b,off+k*3+2,none⟩=some (.slice A4 t.ks.length n4))) 19 (by kernel_rfl) (by kernel_rfl) ?_
   simp only[List.take_succ_cons,List.take_zero,List.drop_succ_cons,List.drop_zero]
   have hHeld:=HC.out wr.drew ((Below.refl _ wr).drew)
   refine wpAnyH_take (i:=0) (oi:=_) (v:=?v0) rfl (by kernel_rfl) (by kernel_rfl) (by kernel_rfl) (fun _ _ _ h=>h) (Or.inl ⟨by rfl,?h0⟩) (by assumption) ?_
   case h0=>(intro w hSw;(try dsimp only at hSw);go_simp;(try with_reducible rfl))
   simp only[Act.put,List.setIfInBounds_toArray,List.set_cons_zero,List.set_cons_succ,List.getElem_toArray,List.getElem_cons_zero,List.getElem_cons_succ]
   refine wpAnyH_take (i:=1) (oi:=_) (v:=?v1) rfl (by kernel_rfl) (by kernel_rfl) (by kernel_rfl) (fun _ _ _ h=>h) (Or.inl ⟨by rfl,?h1⟩) (by assumption) ?_
   case h1=>(intro w hSw;(try dsimp only at hSw);go_simp;(try with_reducible rfl))
   simp only[Act.put,List.setIfInBounds_toArray,List.set_cons_zero,List.set_cons_succ,List.getElem_toArray,List.getElem_cons_zero,List.getElem_cons_succ]
   refine wpAnyH_take (i:=2) (oi:=_) (v:=?v2) rfl (by kernel_rfl) (by kernel_rfl) (by kernel_rfl) (fun _ _ _ h=>h) (Or.inl ⟨by rfl,?h2⟩) (by assumption) ?_
   case h2=>(intro w hSw;(try dsimp only at hSw);go_simp;(try with_reducible rfl))
   simp only[Act.put,List.setIfInBounds_toArray,List.set_cons_zero,List.set_cons_succ,List.getElem_toArray,List.getElem_cons_zero,List.getElem_cons_succ]
   refine wpAnyH_take (i:=3) (oi:=_) (v:=?v3) rfl (by kernel_rfl) (by kernel_rfl) (by kernel_rfl) (fun _ _ _ h=>h) (Or.inl ⟨by rfl,?h3⟩) (by assumption) ?_
   case h3=>(intro w hSw;(try dsimp only at hSw);go_simp;(try with_reducible rfl))
   simp only[Act.put,List.setIfInBounds_toArray,List.set_cons_zero,List.set_cons_succ,List.getElem_toArray,List.getElem_cons_zero,List.getElem_cons_succ]
   refine wpAnyH_take (i:=4) (oi:=_) (v:=?v4) rfl (by kernel_rfl) (by kernel_rfl) (by kernel_rfl) (fun _ _ _ h=>h) (Or.inl ⟨by rfl,?h4⟩) (by assumption) ?_
   case h4=>(intro w hSw;(try dsimp only at hSw);go_simp;(try with_reducible rfl))
   simp only[Act.put,List.setIfInBounds_toArray,List.set_cons_zero,List.set_cons_succ,List.getElem_toArray,List.getElem_cons_zero,List.getElem_cons_succ]
   refine wpAnyH_take (i:=5) (oi:=_) (v:=?v5) rfl (by kernel_rfl) (by kernel_rfl) (by kernel_rfl) (fun _ _ _ h=>h) (Or.inl ⟨by rfl,?h5⟩) (by assumption) ?_
   case h5=>(intro w hSw;(try dsimp only at hSw);go_simp;(try with_reducible rfl))
   simp only[Act.put,List.setIfInBounds_toArray,List.set_cons_zero,List.set_cons_succ,List.getElem_toArray,List.getElem_cons_zero,List.getElem_cons_succ]
   refine wpAnyH_take (i:=6) (oi:=_) (v:=?v6) rfl (by kernel_rfl) (by kernel_rfl) (by kernel_rfl) (fun _ _ _ h=>h) (Or.inl ⟨by rfl,?h6⟩) (by assumption) ?_
   case h6=>(intro w hSw;(try dsimp only at hSw);go_simp;(try with_reducible rfl))
   simp only[Act.put,List.setIfInBounds_toArray,List.set_cons_zero,List.set_cons_succ,List.getElem_toArray,List.getElem_cons_zero,List.getElem_cons_succ]
   refine wpAnyH_take (i:=7) (oi:=_) (v:=?v7) rfl (by kernel_rfl) (by kernel_rfl) (by kernel_rfl) (fun _ _ _ h=>h) (Or.inl ⟨by rfl,?h7⟩) (by assumption) ?_
   case h7=>(intro w hSw;(try dsimp only at hSw);go_simp;(try with_reducible rfl))
   simp only[Act.put,List.setIfInBounds_toArray,List.set_cons_zero,List.set_cons_succ,List.getElem_toArray,List.getElem_cons_zero,List.getElem_cons_succ]
   refine wpAnyH_take (i:=8) (oi:=_) (v:=?v8) rfl (by kernel_rfl) (by kernel_rfl) (by kernel_rfl) (fun _ _ _ h=>h) (Or.inl ⟨by rfl,?h8⟩) (by assumption) ?_
   case h8=>(intro w hSw;(try dsimp only at hSw);go_simp;(try with_reducible rfl))
   simp only[Act.put,List.setIfInBounds_toArray,List.set_cons_zero,List.set_cons_succ,List.getElem_toArray,List.getElem_cons_zero,List.getElem_cons_succ]
   refine wpAnyH_take (i:=9) (oi:=_) (v:=?v9) rfl (by kernel_rfl) (by kernel_rfl) (by kernel_rfl) (fun _ _ _ h=>h) (Or.inl ⟨by rfl,?h9⟩) (by assumption) ?_
   case h9=>(intro w hSw;(try dsimp only at hSw);go_simp;(try with_reducible rfl))
   simp only[Act.put,List.setIfInBounds_toArray,List.set_cons_zero,List.set_cons_succ,List.getElem_toArray,List.getElem_cons_zero,List.getElem_cons_succ]
   refine wpAnyH_take (i:=10) (oi:=_) (v:=?v10) rfl (by kernel_rfl) (by kernel_rfl) (by kernel_rfl) (fun _ _ _ h=>h) (Or.inl ⟨by rfl,?h10⟩) (by assumption) ?_
   case h10=>(intro w hSw;(try dsimp only at hSw);go_simp;(try with_reducible rfl))
   simp only[Act.put,List.setIfInBounds_toArray,List.set_cons_zero,List.set_cons_succ,List.getElem_toArray,List.getElem_cons_zero,List.getElem_cons_succ]
   refine wpAnyH_take (i:=11) (oi:=_) (v:=?v11) rfl (by kernel_rfl) (by kernel_rfl) (by kernel_rfl) (fun _ _ _ h=>h) (Or.inl ⟨by rfl,?h11⟩) (by assumption) ?_
   case h11=>(intro w hSw;(try dsimp only at hSw);go_simp;(try with_reducible rfl))
   simp only[Act.put,List.setIfInBounds_toArray,List.set_cons_zero,List.set_cons_succ,List.getElem_toArray,List.getElem_cons_zero,List.getElem_cons_succ]
   refine wpAnyH_take (i:=12) (oi:=_) (v:=?v12) rfl (by kernel_rfl) (by kernel_rfl) (by kernel_rfl) (fun _ _ _ h=>h) (Or.inl ⟨by rfl,?h12⟩) (by assumption) ?_
   case h12=>(intro w hSw;(try dsimp only at hSw);go_simp;(try with_reducible rfl))
   simp only[Act.put,List.setIfInBounds_toArray,List.set_cons_zero,List.set_cons_succ,List.getElem_toArray,List.getElem_cons_zero,List.getElem_cons_succ]
   refine wpAnyH_take (i:=13) (oi:=_) (v:=?v13) rfl (by kernel_rfl) (by kernel_rfl) (by kernel_rfl) (fun _ _ _ h=>h) (Or.inl ⟨by rfl,?h13⟩) (by assumption) ?_
   case h13=>(intro w hSw;(try dsimp only at hSw);go_simp;(try with_reducible rfl))
   simp only[Act.put,List.setIfInBounds_toArray,List.set_cons_zero,List.set_cons_succ,List.getElem_toArray,List.getElem_cons_zero,List.getElem_cons_succ]
   refine wpAnyH_ready (rs:=[14]) (by kernel_rfl) (by simp) ?_
   refine AllReadyH.cons (o:=_) rfl (fun K hK=>?_) AllReadyH.nil
   (go_simp;refine (HIH.out _ _ _ HRW.out htz).mono ?_;rintro e w3 ⟨ve3,vk3,rfl,hrd,hb3⟩;obtain⟨Av,nv,Aw,nw,e1,e2⟩:=Ql hrd;subst e1;subst e2;have HB3:Hid (Below wr.heap.size wr w3):=hid ((Below.refl wr.heap.size wr).drew.trans (hb3.mono (by simp)));have hs3:=HB3.out.size;have HR3:=hid hrd;clear hrd hb3)
   refine hK.out _ _ ?_ (fun hHeld14=>?_)
   ·exact HC.out _ (HB3.out.mono hsz)
   clear hK K
   try simp only[Act.put,List.setIfInBounds_toArray,List.set_cons_zero,List.set_cons_succ,List.getElem_toArray,List.getElem_cons_zero,List.getElem_cons_succ]
   refine wpAnyH_take (i:=15) (oi:=_) (v:=?v15) rfl (by kernel_rfl) (by kernel_rfl) (by kernel_rfl) (fun _ _ _ h=>h) (Or.inl ⟨by rfl,?h15⟩) (by assumption) ?_
   case h15=>(intro w hSw;(try dsimp only at hSw);go_simp;(try with_reducible rfl))
   simp only[Act.put,List.setIfInBounds_toArray,List.set_cons_zero,List.set_cons_succ,List.getElem_toArray,List.getElem_cons_zero,List.getElem_cons_succ]
   refine wpAnyH_ready (rs:=[16]) (by kernel_rfl) (by simp) ?_
   refine AllReadyH.cons (o:=_) rfl (fun K hK=>?_) AllReadyH.nil
   go_simp
   refine hK.out _ _ ?_ (fun hHeld16=>?_)
   ·exact HC.out _ ((HB3.out.mono hsz).alloc (by omega) _)
   clear hK K
   try simp only[Act.put,List.setIfInBounds_toArray,List.set_cons_zero,List.set_cons_succ,List.getElem_toArray,List.getElem_cons_zero,List.getElem_cons_succ]
   refine wpAnyH_ready (rs:=[17]) (by kernel_rfl) (by simp) ?_
   refine AllReadyH.cons (o:=_) rfl (fun K hK=>?_) AllReadyH.nil
   (refine KV (v:=.slice Ak js.length ck) rfl (.tmp 18) (.tmp 33) _ rfl KdU.mon eiKid (by decide) (by decide) rfl (HOWN.out _ (HB3.out.alloc hs3 _)) rfl (Ys HR3.out HKB.out (fun b hb=>⟨hb.2,by have:=hb.1;simp only[World.size_drew]at *;omega,by rw[World.size_alloc];have:=hb.2;omega,fun e=>by have:=hszk b e;have:=hb.1;simp only[World.size_drew]at *;omega⟩) _ (by rw[World.size_alloc];omega)) HL.out (by rw[World.size_alloc];omega) ?_;intro v1 w4 hown4 hb4 _ _;obtain⟨A7,c7,hv7⟩:=OwnP.shape hown4;subst hv7;have HB4:=hid (((HB3.out.mono hsz).alloc (by omega) (.cells #[.string key,.slice Av t.es.length nv,.slice Aw t.ks.length nw] 96)).trans hb4);have HO4:=hid hown4;have hz4:=hb4.size;rw[World.size_alloc]at hz4;clear hown4 hb4)
   refine hK.out _ _ ?_ (fun hHeld17=>?_)
   ·exact HC.out _ HB4.out
   clear hK K
   try simp only[Act.put,List.setIfInBounds_toArray,List.set_cons_zero,List.set_cons_succ,List.getElem_toArray,List.getElem_cons_zero,List.getElem_cons_succ]
   refine wpAnyH_take (i:=18) (oi:=_) (v:=?v18) rfl (by kernel_rfl) (by kernel_rfl) (by kernel_rfl) (fun _ _ _ h=>h) (Or.inl ⟨by rfl,?h18⟩) (by assumption) ?_
   case h18=>(intro w hSw;(try dsimp only at hSw);go_simp;(try with_reducible rfl))
   simp only[Act.put,List.setIfInBounds_toArray,List.set_cons_zero,List.set_cons_succ,List.getElem_toArray,List.getElem_cons_zero,List.getElem_cons_succ]
   refine wpAnyH_done (by kernel_rfl) ?_ _
   change wpList _ _ _ _ _ _
   have HG4:=hid (HGW.out _ HB4.out)
   have d1:w4.cell? ⟨w.heap.size+2,1,none⟩=some (.slice Ak js.length ck):=Qa (i:=1) HG4.out
   have z1:=Qb (i:=1) HG4.out
   go_wp2_with fail
   go_roundw
   case rel=>
    refine⟨k+1,by omega,by go_num,A7,c7,?_,?_,?_,?_,?_⟩
    ·rw[HX1.out];simpa using Qe (i:=1) HG4.out (.slice A7 (js.length+1) c7)
    ·rw[HX1.out];exact OwnD.setOther HO4.out KdU.mon hlt2 (by simp;omega) _
    ·simp[World.setCell];omega
    ·exact (hb.trans (HB4.out.mono (by omega))).setCell (by simp) _
    ·intro b h1 h2
     exact (Below.heap_setCell _ _ _ _ (by simp;omega)).trans ((HB4.out.block b h2).trans (hkp b h1 h2))
   case measure=>simp[intOf];omega
  ·obtain rfl:k=ks.length:=by omega
   rw[List.take_of_length_le (Nat.le_refl _)]at hg hown hszk
   have c0:wr.cell? ⟨w.heap.size+2,0,none⟩=some (.slice Ae es.length ce):=Qa (i:=0) hg
   have c1:wr.cell? ⟨w.heap.size+2,1,none⟩=some (.slice Ak ks.length ck):=Qa (i:=1) hg
   have d0:wr.cell? ⟨w.heap.size+1,0,none⟩=some (.slice none 0 0):=Qa (i:=0) hgr
   have d1:wr.cell? ⟨w.heap.size+1,1,none⟩=some (.slice none 0 0):=Qa (i:=1) hgr
   have z0:=Qb (i:=0) hgr
   have z1:=Qb (i:=1) hgr
   clear ih c3
   go_wp2_with fail
   have hW0:=Qe (i:=1) (Qe (i:=0) hgr (.slice Ae es.length ce)) (.slice Ak ks.length ck)
   have hKW:∀ b,w.heap.size+2<=b->((wr.setCell ⟨w.heap.size+1,0,none⟩ (.slice Ae es.length ce)).setCell ⟨w.heap.size+1,1,none⟩ (.slice Ak ks.length ck)).heap[b]?=wr.heap[b]?:=fun b hb=>(Below.heap_setCell _ _ _ _ (by simp;omega)).trans (Below.heap_setCell _ _ _ _ (by simp;omega))
   have hSW:((wr.setCell ⟨w.heap.size+1,0,none⟩ (.slice Ae es.length ce)).setCell ⟨w.heap.size+1,1,none⟩ (.slice Ak ks.length ck)).heap.size=wr.heap.size:=by simp[World.setCell]
   have hBW:Below w.heap.size w ((wr.setCell ⟨w.heap.size+1,0,none⟩ (.slice Ae es.length ce)).setCell ⟨w.heap.size+1,1,none⟩ (.slice Ak ks.length ck)):=(hB0.setCell (by simp) _).setCell (by simp) _
   clear c0 c1 d0 d1 z0 z1
   generalize ((wr.setCell ⟨w.heap.size+1,0,none⟩ (.slice Ae es.length ce)).setCell ⟨w.heap.size+1,1,none⟩ (.slice Ak ks.length ck))=W at *
   have r0:W.cell? ⟨w.heap.size+1,0,none⟩=some (.slice Ae es.length ce):=(Qa (i:=0) hW0).trans (by simp)
   have r1:W.cell? ⟨w.heap.size+1,1,none⟩=some (.slice Ak ks.length ck):=(Qa (i:=1) hW0).trans (by simp)
   refine bodyPost_ret (v:=.agg #[.slice Ae es.length ce,.slice Ak ks.length ck]) (by simp[results,Tryz.results44,go_sem,r0,r1]) rfl ⟨_,_,rfl,?_,hBW⟩
   rw[XF]
   refine⟨(HO1.out.slu (by unfold Big;omega)).up (fun b hb'=>(hKW b (by have:=hb'.1;omega)).trans (hkp b (by have:=hb'.1;omega) hb'.2.1)) (fun b hb'=>⟨by have:=hb'.1;omega,by have:=hb'.2.1;omega⟩) (fun _ _ _ h=>h),(OwnP.slu hown (by unfold Big;omega)).up (fun b hb'=>hKW b (by have:=hb'.1;omega)) (fun b hb'=>⟨by have:=hb'.1;omega,by have:=hb'.2.1;omega⟩) ?_⟩
   intro x _ cs hx
   exact KdU.mon.up (fun b hb'=>hKW b (by have:=hb'.1;omega)) (fun b hb'=>⟨by have:=hb'.1;omega,by have:=hb'.2.1;omega⟩) hx
theorem Qo (t:Tr)(c:List Sp)(ve vk vc:Value)(w:World)(h:t.rd w w.heap.size ve vk)(hc:SlP w w.heap.size 3 SpE vc c)(hN:t.sz<=4000)(hN':c.length<=20000) :
  Calls Tryz.prog 14 #[.agg #[ve,vk,vc]] w (RetCU w t c):=by
 have HC:Hid (∀ w',Below w.heap.size w w'->(t.rd w' w'.heap.size ve vk/\SlP w' w'.heap.size 3 SpE vc c)):=fun w' hb=>⟨Qi hb hb.size _ _ _ h,hc.imp hb hb.size fun _ _ _ h=>h⟩
 obtain⟨A3,n3,A4,n4,rfl,rfl⟩:=Qk h
 obtain⟨A5,n5,rfl,_⟩:=hc
 have hb0:Below w.heap.size w ((w.alloc (.cells #[.slice A3 t.es.length n3,.slice A4 t.ks.length n4,.slice A5 c.length n5] 29)).alloc (.cells #[.slice none 0 0,.slice none 0 0,.slice none 0 0] 29)):=((Below.refl _ w).alloc (Nat.le_refl _) _).alloc (by simp) _
 have HB0:=hid hb0
 have HX:Hid (∀ W,Below (w.heap.size+2) ((w.alloc (.cells #[.slice A3 t.es.length n3,.slice A4 t.ks.length n4,.slice A5 c.length n5] 29)).alloc (.cells #[.slice none 0 0,.slice none 0 0,.slice none 0 0] 29)) W->(Below w.heap.size w W/\w.heap.size+2<=W.heap.size/\((W).cell? ⟨w.heap.size,0,none⟩=some (.slice A3 t.es.length n3)/\(W).cell? ⟨w.heap.size,1,none⟩=some (.slice A4 t.ks.length n4)/\(W).cell? ⟨w.heap.size,2,none⟩=some (.slice A5 c.length n5))/\W.heap[w.heap.size+1]?=some (.cells #[.slice none 0 0,.slice none 0 0,.slice none 0 0] 29 (0,0)))):=fun W hW=>by
  have g0:W.heap[w.heap.size]?=some (.cells #[.slice A3 t.es.length n3,.slice A4 t.ks.length n4,.slice A5 c.length n5] 29 (0,0)):=(hW.block _ (by omega)).trans ((Qh (by simp)).trans (Qf rfl))
  exact⟨HB0.out.trans (hW.mono (by omega)),by have:=hW.size;simpa using this,⟨Qa (i:=0) g0,Qa (i:=1) g0,Qa (i:=2) g0⟩,(hW.block _ (by omega)).trans (Qf (by simp))⟩
 clear h hb0
 have hneA:w.heap.size+1≠w.heap.size:=by omega
 go_enter Tryz.func14,Tryz.ntmps14
 go_upto_region 1 with (fail)
 refine QD (S:=fun W=>((W).cell? ⟨w.heap.size,0,none⟩=some (.slice A3 t.es.length n3)/\(W).cell? ⟨w.heap.size,1,none⟩=some (.slice A4 t.ks.length n4)/\(W).cell? ⟨w.heap.size,2,none⟩=some (.slice A5 c.length n5))) 8 (by kernel_rfl) (by kernel_rfl) ?_
 simp only[List.take_succ_cons,List.take_zero,List.drop_succ_cons,List.drop_zero]
 have hHeld:=(HX.out _ ((Below.refl (w.heap.size+2) ((w.alloc (.cells #[.slice A3 t.es.length n3,.slice A4 t.ks.length n4,.slice A5 c.length n5] 29)).alloc (.cells #[.slice none 0 0,.slice none 0 0,.slice none 0 0] 29))).drew)).2.2.1
 refine wpAnyH_take (i:=0) (oi:=_) (v:=?v0) rfl (by kernel_rfl) (by kernel_rfl) (by kernel_rfl) (fun _ _ _ h=>h) (Or.inl ⟨by rfl,?h0⟩) (by assumption) ?_
 case h0=>(intro w hSw;(try dsimp only at hSw);go_simp;(try with_reducible rfl))
 simp only[Act.put,List.setIfInBounds_toArray,List.set_cons_zero,List.set_cons_succ,List.getElem_toArray,List.getElem_cons_zero,List.getElem_cons_succ]
 refine wpAnyH_take (i:=1) (oi:=_) (v:=?v1) rfl (by kernel_rfl) (by kernel_rfl) (by kernel_rfl) (fun _ _ _ h=>h) (Or.inl ⟨by rfl,?h1⟩) (by assumption) ?_
 case h1=>(intro w hSw;(try dsimp only at hSw);go_simp;(try with_reducible rfl))
 simp only[Act.put,List.setIfInBounds_toArray,List.set_cons_zero,List.set_cons_succ,List.getElem_toArray,List.getElem_cons_zero,List.getElem_cons_succ]
 refine wpAnyH_take (i:=4) (oi:=_) (v:=?v4) rfl (by kernel_rfl) (by kernel_rfl) (by kernel_rfl) (fun _ _ _ h=>h) (Or.inl ⟨by rfl,?h4⟩) (by assumption) ?_
 case h4=>(intro w hSw;(try dsimp only at hSw);go_simp;(try with_reducible rfl))
 simp only[Act.put,List.setIfInBounds_toArray,List.set_cons_zero,List.set_cons_succ,List.getElem_toArray,List.getElem_cons_zero,List.getElem_cons_succ]
 refine wpAnyH_take (i:=5) (oi:=_) (v:=?v5) rfl (by kernel_rfl) (by kernel_rfl) (by kernel_rfl) (fun _ _ _ h=>h) (Or.inl ⟨by rfl,?h5⟩) (by assumption) ?_
 case h5=>(intro w hSw;(try dsimp only at hSw);go_simp;(try with_reducible rfl))
 simp only[Act.put,List.setIfInBounds_toArray,List.set_cons_zero,List.set_cons_succ,List.getElem_toArray,List.getElem_cons_zero,List.getElem_cons_succ]
 refine wpAnyH_ready (rs:=[2,3]) (by kernel_rfl) (by simp) ?_
 refine AllReadyH.cons (o:=_) rfl (fun K hK=>?_) (AllReadyH.cons (o:=_) rfl (fun K hK=>?_) AllReadyH.nil)
 ·(go_simp;refine (YU t _ _ _ (HC.out _ (HX.out _ ((Below.refl (w.heap.size+2) ((w.alloc (.cells #[.slice A3 t.es.length n3,.slice A4 t.ks.length n4,.slice A5 c.length n5] 29)).alloc (.cells #[.slice none 0 0,.slice none 0 0,.slice none 0 0] 29))).drew)).1).1 (by omega)).mono ?_;rintro e w3 ⟨ve3,vk3,rfl,hrd3,hb3⟩;obtain⟨Av,nv,Aw,nw,e1,e2⟩:=Ql hrd3;subst e1;subst e2;have HR3:=hid hrd3;have HB3:Hid (Below (w.heap.size+2) ((w.alloc (.cells #[.slice A3 t.es.length n3,.slice A4 t.ks.length n4,.slice A5 c.length n5] 29)).alloc (.cells #[.slice none 0 0,.slice none 0 0,.slice none 0 0] 29)) w3):=hid ((Below.refl (w.heap.size+2) ((w.alloc (.cells #[.slice A3 t.es.length n3,.slice A4 t.ks.length n4,.slice A5 c.length n5] 29)).alloc (.cells #[.slice none 0 0,.slice none 0 0,.slice none 0 0] 29))).drew.trans (hb3.mono (by simp)));clear hrd3)
  refine hK.out _ _ ?_ (fun hHeld2=>?_)
  ·exact (HX.out _ HB3.out).2.2.1
  clear hK K
  try simp only[Act.put,List.setIfInBounds_toArray,List.set_cons_zero,List.set_cons_succ,List.getElem_toArray,List.getElem_cons_zero,List.getElem_cons_succ]
  have hs3:=(HX.out _ HB3.out).2.1
  have HB4:=hid (HB3.out.alloc hs3 (.cells #[] 45))
  refine wpAnyH_ready (rs:=[3]) (by kernel_rfl) (by simp) ?_
  refine AllReadyH.cons (o:=_) rfl (fun K hK=>?_) AllReadyH.nil
  go_simp
  refine hK.out _ _ ?_ (fun hHeld3=>?_)
  ·exact (HX.out _ HB4.out).2.2.1
  clear hK K
  try simp only[Act.put,List.setIfInBounds_toArray,List.set_cons_zero,List.set_cons_succ,List.getElem_toArray,List.getElem_cons_zero,List.getElem_cons_succ]
  refine wpAnyH_ready (rs:=[6]) (by kernel_rfl) (by simp) ?_
  refine AllReadyH.cons (o:=_) rfl (fun K hK=>?_) AllReadyH.nil
  (refine QZ (v:=.slice (some ⟨w3.heap.size,0,none⟩) 0 0) (base:=w.heap.size+2) rfl (.tmp 6) (.tmp 8) _ rfl Yu (by decide) (by decide) (fun _ _ h=>h.one) rfl (OwnP.zero (Qf rfl) hs3) rfl (HC.out _ (HX.out _ HB4.out).1).2 (by unfold Few;simp;omega) (by simp;omega) ?_;intro v5 w5 hown5 hb5 hgr5;rw[List.nil_append]at hown5;obtain⟨A7,c7,hv7⟩:=OwnP.shape hown5;subst hv7;have HB5:=hid (HB4.out.trans hb5);have HO5:=hid hown5;have HR5:Hid (t.rdu w5 (fun b=>w.heap.size+2<=b/\b<w5.heap.size) (.slice Av t.es.length nv) (.slice Aw t.ks.length nw)):=hid (Qu (fun b hb=>(hgr5.block b (by simp;have:=hb.2;omega) (fun e=>Nat.lt_irrefl w3.heap.size (by have h2:=hb.2;rwa [show b=w3.heap.size from by simpa[Value.ownBlock] using e]at h2))).trans (Qh hb.2)) (fun b hb=>⟨by have:=hb.1;simp only[World.size_drew,World.size_alloc]at this;omega,by have:=hb.2;have:=hb5.size;rw[World.size_alloc]at this;omega⟩) _ _ _ HR3.out);clear hown5 hb5 hgr5)
  refine hK.out _ _ ?_ (fun hHeld6=>?_)
  ·exact (HX.out _ HB5.out).2.2.1
  clear hK K
  try simp only[Act.put,List.setIfInBounds_toArray,List.set_cons_zero,List.set_cons_succ,List.getElem_toArray,List.getElem_cons_zero,List.getElem_cons_succ]
  refine wpAnyH_take (i:=7) (oi:=_) (v:=?v7) rfl (by kernel_rfl) (by kernel_rfl) (by kernel_rfl) (fun _ _ _ h=>h) (Or.inl ⟨by rfl,?h7⟩) (by assumption) ?_
  case h7=>(intro w hSw;(try dsimp only at hSw);go_simp;(try with_reducible rfl))
  simp only[Act.put,List.setIfInBounds_toArray,List.set_cons_zero,List.set_cons_succ,List.getElem_toArray,List.getElem_cons_zero,List.getElem_cons_succ]
  refine wpAnyH_done (by kernel_rfl) ?_ _
  change wpList _ _ _ _ _ _
  obtain⟨hB5,hs5,_,hG5⟩:=HX.out _ HB5.out
  have HG5:=hid hG5
  obtain⟨k0,k1,k2,z0,z1,z2⟩:=bz3 hG5
  clear hG5
  go_wp2_with fail
  obtain⟨r0,r1,r2,hK,hS⟩:=box3 HG5.out (.slice Av t.es.length nv) (.slice Aw t.ks.length nw) (.slice A7 c.length c7)
  have hBW:Below w.heap.size w (((w5.setCell ⟨w.heap.size+1,0,none⟩ (.slice Av t.es.length nv)).setCell ⟨w.heap.size+1,1,none⟩ (.slice Aw t.ks.length nw)).setCell ⟨w.heap.size+1,2,none⟩ (.slice A7 c.length c7)):=((hB5.setCell (by simp) _).setCell (by simp) _).setCell (by simp) _
  clear k0 k1 k2 z0 z1 z2
  generalize (((w5.setCell ⟨w.heap.size+1,0,none⟩ (.slice Av t.es.length nv)).setCell ⟨w.heap.size+1,1,none⟩ (.slice Aw t.ks.length nw)).setCell ⟨w.heap.size+1,2,none⟩ (.slice A7 c.length c7))=W at *
  refine bodyPost_ret (v:=.agg #[.slice Av t.es.length nv,.slice Aw t.ks.length nw,.slice A7 c.length c7]) (by simp[results,Tryz.results14,go_sem,r0,r1,r2]) rfl ⟨_,_,_,rfl,?_,?_,hBW⟩
  ·exact Qu (fun b hb=>hK b (by have:=hb.1;omega)) (fun b hb=>⟨by have:=hb.1;omega,by have:=hb.2;omega⟩) _ _ _ HR5.out
  ·exact (HO5.out.slu (by unfold Big;omega)).up (fun b hb=>hK b (by have:=hb.1;omega)) (fun b hb=>⟨by have:=hb.1;omega,by have:=hb.2.1;omega⟩) (fun _ _ _ h=>h)
 ·go_simp
  refine hK.out _ _ ?_ (fun hHeld3=>?_)
  ·exact (HX.out _ ((Below.refl (w.heap.size+2) ((w.alloc (.cells #[.slice A3 t.es.length n3,.slice A4 t.ks.length n4,.slice A5 c.length n5] 29)).alloc (.cells #[.slice none 0 0,.slice none 0 0,.slice none 0 0] 29))).drew.alloc (by simp) (.cells #[] 45))).2.2.1
  clear hK K
  try simp only[Act.put,List.setIfInBounds_toArray,List.set_cons_zero,List.set_cons_succ,List.getElem_toArray,List.getElem_cons_zero,List.getElem_cons_succ]
  refine wpAnyH_ready (rs:=[2]) (by kernel_rfl) (by simp) ?_
  refine AllReadyH.cons (o:=_) rfl (fun K hK=>?_) AllReadyH.nil
  (go_simp;refine (YU t _ _ _ (HC.out _ (HX.out _ ((Below.refl (w.heap.size+2) ((w.alloc (.cells #[.slice A3 t.es.length n3,.slice A4 t.ks.length n4,.slice A5 c.length n5] 29)).alloc (.cells #[.slice none 0 0,.slice none 0 0,.slice none 0 0] 29))).drew.alloc (by simp) (.cells #[] 45))).1).1 (by omega)).mono ?_;rintro e w3 ⟨ve3,vk3,rfl,hrd3,hb3⟩;obtain⟨Av,nv,Aw,nw,e1,e2⟩:=Ql hrd3;subst e1;subst e2;have HR3:=hid hrd3;(have HB3:Hid (Below (w.heap.size+2) ((w.alloc (.cells #[.slice A3 t.es.length n3,.slice A4 t.ks.length n4,.slice A5 c.length n5] 29)).alloc (.cells #[.slice none 0 0,.slice none 0 0,.slice none 0 0] 29)) w3):=hid (((Below.refl (w.heap.size+2) ((w.alloc (.cells #[.slice A3 t.es.length n3,.slice A4 t.ks.length n4,.slice A5 c.length n5] 29)).alloc (.cells #[.slice none 0 0,.slice none 0 0,.slice none 0 0] 29))).drew.alloc (by simp) (.cells #[] 45)).trans (hb3.mono (by simp))));(have hg3:w3.heap[w.heap.size+2]?=some (.cells #[] 45 (0,0)):=(hb3.block _ (by simp)).trans (Qf (by simp)));(have HQ3:=hid hg3);(have hs3:w.heap.size+3<=w3.heap.size:=(by have:=hb3.size;simpa using this));clear hg3;clear hrd3)
  refine hK.out _ _ ?_ (fun hHeld2=>?_)
  ·exact (HX.out _ HB3.out).2.2.1
  clear hK K
  try simp only[Act.put,List.setIfInBounds_toArray,List.set_cons_zero,List.set_cons_succ,List.getElem_toArray,List.getElem_cons_zero,List.getElem_cons_succ]
  refine wpAnyH_ready (rs:=[6]) (by kernel_rfl) (by simp) ?_
  refine AllReadyH.cons (o:=_) rfl (fun K hK=>?_) AllReadyH.nil
  (refine QZ (v:=.slice (some ⟨w.heap.size+2,0,none⟩) 0 0) (base:=w.heap.size+2) rfl (.tmp 6) (.tmp 8) _ rfl Yu (by decide) (by decide) (fun _ _ h=>h.one) rfl (OwnP.zero HQ3.out (Nat.le_refl _)) rfl (HC.out _ (HX.out _ HB3.out).1).2 (by unfold Few;simp;omega) (by omega) ?_;intro v5 w5 hown5 hb5 hgr5;rw[List.nil_append]at hown5;obtain⟨A7,c7,hv7⟩:=OwnP.shape hown5;subst hv7;have HB5:=hid (HB3.out.trans hb5);have HO5:=hid hown5;have HR5:Hid (t.rdu w5 (fun b=>w.heap.size+2<=b/\b<w5.heap.size) (.slice Av t.es.length nv) (.slice Aw t.ks.length nw)):=hid (Qu (fun b hb=>hgr5.block b hb.2 (fun e=>by have h2:=hb.1;simp only[World.size_drew,World.size_alloc]at h2;have e2:b=w.heap.size+2:=(by simpa[Value.ownBlock] using e);omega)) (fun b hb=>⟨by have:=hb.1;simp only[World.size_drew,World.size_alloc]at this;omega,by have:=hb.2;have:=hb5.size;omega⟩) _ _ _ HR3.out);clear hown5 hb5 hgr5)
  refine hK.out _ _ ?_ (fun hHeld6=>?_)
  ·exact (HX.out _ HB5.out).2.2.1
  clear hK K
  try simp only[Act.put,List.setIfInBounds_toArray,List.set_cons_zero,List.set_cons_succ,List.getElem_toArray,List.getElem_cons_zero,List.getElem_cons_succ]
  refine wpAnyH_take (i:=7) (oi:=_) (v:=?vb7) rfl (by kernel_rfl) (by kernel_rfl) (by kernel_rfl) (fun _ _ _ h=>h) (Or.inl ⟨by rfl,?hb7⟩) (by assumption) ?_
  case hb7=>(intro w hSw;(try dsimp only at hSw);go_simp;(try with_reducible rfl))
  simp only[Act.put,List.setIfInBounds_toArray,List.set_cons_zero,List.set_cons_succ,List.getElem_toArray,List.getElem_cons_zero,List.getElem_cons_succ]
  refine wpAnyH_done (by kernel_rfl) ?_ _
  change wpList _ _ _ _ _ _
  obtain⟨hB5,hs5,_,hG5⟩:=HX.out _ HB5.out
  have HG5:=hid hG5
  obtain⟨k0,k1,k2,z0,z1,z2⟩:=bz3 hG5
  clear hG5
  go_wp2_with fail
  obtain⟨r0,r1,r2,hK,hS⟩:=box3 HG5.out (.slice Av t.es.length nv) (.slice Aw t.ks.length nw) (.slice A7 c.length c7)
  have hBW:Below w.heap.size w (((w5.setCell ⟨w.heap.size+1,0,none⟩ (.slice Av t.es.length nv)).setCell ⟨w.heap.size+1,1,none⟩ (.slice Aw t.ks.length nw)).setCell ⟨w.heap.size+1,2,none⟩ (.slice A7 c.length c7)):=((hB5.setCell (by simp) _).setCell (by simp) _).setCell (by simp) _
  clear k0 k1 k2 z0 z1 z2
  generalize (((w5.setCell ⟨w.heap.size+1,0,none⟩ (.slice Av t.es.length nv)).setCell ⟨w.heap.size+1,1,none⟩ (.slice Aw t.ks.length nw)).setCell ⟨w.heap.size+1,2,none⟩ (.slice A7 c.length c7))=W at *
  refine bodyPost_ret (v:=.agg #[.slice Av t.es.length nv,.slice Aw t.ks.length nw,.slice A7 c.length c7]) (by simp[results,Tryz.results14,go_sem,r0,r1,r2]) rfl ⟨_,_,_,rfl,?_,?_,hBW⟩
  ·exact Qu (fun b hb=>hK b (by have:=hb.1;omega)) (fun b hb=>⟨by have:=hb.1;omega,by have:=hb.2;omega⟩) _ _ _ HR5.out
  ·exact (HO5.out.slu (by unfold Big;omega)).up (fun b hb=>hK b (by have:=hb.1;omega)) (fun b hb=>⟨by have:=hb.1;omega,by have:=hb.2.1;omega⟩) (fun _ _ _ h=>h)
def TwoC (m:Nat)(V:World)(J K:Kn)(s t:Value)(wx:World):Prop:=∃ p q u v x u' v' x',s=.pointer (some ⟨p,0,none⟩)/\t=.pointer (some ⟨q,0,none⟩)/\wx.heap[p]?=some (.cells #[u,v,x] 29 (0,0))/\wx.heap[q]?=some (.cells #[u',v',x'] 29 (0,0)) /\
 J.1.rd wx wx.heap.size u v/\SlP wx wx.heap.size 3 SpE x J.2/\K.1.rd wx wx.heap.size u' v'/\SlP wx wx.heap.size 3 SpE x' K.2/\Below m V wx
abbrev KnV:=Kn×Value×Value×Value
def KnIn (W:World)(ok:Nat->Prop)(j:KnV):Prop:=j.1.1.rda W ok j.2.1 j.2.2.1/\SlA W ok 3 SpE j.2.2.2 j.1.2
structure S3 (m:Nat)(V W:World)(x y:Option Nat)(J K:Option KnV):Prop where
 below:Below m V W
 size:m<=W.heap.size
 bx:∀ p,x=some p->m<=p/\W.heap[p]?=some (.cells #[.slice none 0 0,.slice none 0 0,.slice none 0 0] 29 (0,0))
 byy:∀ p,y=some p->m<=p/\W.heap[p]?=some (.cells #[.slice none 0 0,.slice none 0 0,.slice none 0 0] 29 (0,0))
 ne:∀ p,x=some p->y≠some p
 j:∀ j,J=some j->KnIn W (fun b=>b<W.heap.size/\x≠some b/\y≠some b) j
 k:∀ j,K=some j->KnIn W (fun b=>b<W.heap.size/\x≠some b/\y≠some b) j
theorem KnIn.up {W W':World}{ok ok':Nat->Prop}{j:KnV}(h:KnIn W ok j)(hk:Keeps ok W W')(ho:∀ b,ok b->ok' b):KnIn W' ok' j:=⟨Zi hk ho _ _ _ h.1,h.2.up hk ho fun _ _ _ h=>h⟩
section
variable {m:Nat}{V W W':World}{x y:Option Nat}{J K:Option KnV}
theorem S3.start (h:Below m V W)(hm:m<=W.heap.size):S3 m V W none none none none:=⟨h,hm,nofun,nofun,nofun,nofun,nofun⟩
theorem S3.step (h:S3 m V W x y J K)(hb:Below W.heap.size W W'):S3 m V W' x y J K:=
 ⟨h.below.trans (hb.mono h.size),Nat.le_trans h.size hb.size,fun p hp=>⟨(h.bx p hp).1,(hb.block p (lt_of_block (h.bx p hp).2)).trans (h.bx p hp).2⟩,fun p hp=>⟨(h.byy p hp).1,(hb.block p (lt_of_block (h.byy p hp).2)).trans (h.byy p hp).2⟩,h.ne,
  fun j hj=>(h.j j hj).up (fun b hb'=>hb.block b hb'.1) fun _ hb'=>⟨Nat.lt_of_lt_of_le hb'.1 hb.size,hb'.2⟩,fun j hj=>(h.k j hj).up (fun b hb'=>hb.block b hb'.1) fun _ hb'=>⟨Nat.lt_of_lt_of_le hb'.1 hb.size,hb'.2⟩⟩
theorem S3.newX (h:S3 m V W none y J K):S3 m V (W.alloc (.cells #[.slice none 0 0,.slice none 0 0,.slice none 0 0] 29 (0,0))) (some W.heap.size) y J K:=by
 have hb:Below W.heap.size W (W.alloc (.cells #[.slice none 0 0,.slice none 0 0,.slice none 0 0] 29 (0,0))):=(Below.refl _ W).alloc (Nat.le_refl _) _
 have s:=h.step hb
 have e:∀ j:KnV,KnIn W (fun b=>b<W.heap.size/\(none:Option Nat)≠some b/\y≠some b) j->KnIn (W.alloc (.cells #[.slice none 0 0,.slice none 0 0,.slice none 0 0] 29 (0,0))) (fun b=>b<(W.alloc (.cells #[.slice none 0 0,.slice none 0 0,.slice none 0 0] 29 (0,0))).heap.size/\some W.heap.size≠some b/\y≠some b) j:=fun j hj=>
  hj.up (fun b hb'=>hb.block b hb'.1) fun _ hb'=>⟨Nat.lt_of_lt_of_le hb'.1 hb.size,fun e=>by cases e;exact absurd hb'.1 (Nat.lt_irrefl _),hb'.2.2⟩
 refine⟨s.below,s.size,fun p hp=>?_,s.byy,fun p hp hq=>?_,fun j hj=>e j (h.j j hj),fun j hj=>e j (h.k j hj)⟩
 ·cases hp;exact⟨h.size,Qf rfl⟩
 ·cases hp;exact absurd (lt_of_block (h.byy _ hq).2) (Nat.lt_irrefl _)
theorem S3.newY (h:S3 m V W x none J K):S3 m V (W.alloc (.cells #[.slice none 0 0,.slice none 0 0,.slice none 0 0] 29 (0,0))) x (some W.heap.size) J K:=by
 have hb:Below W.heap.size W (W.alloc (.cells #[.slice none 0 0,.slice none 0 0,.slice none 0 0] 29 (0,0))):=(Below.refl _ W).alloc (Nat.le_refl _) _
 have s:=h.step hb
 have e:∀ j:KnV,KnIn W (fun b=>b<W.heap.size/\x≠some b/\(none:Option Nat)≠some b) j->KnIn (W.alloc (.cells #[.slice none 0 0,.slice none 0 0,.slice none 0 0] 29 (0,0))) (fun b=>b<(W.alloc (.cells #[.slice none 0 0,.slice none 0 0,.slice none 0 0] 29 (0,0))).heap.size/\x≠some b/\some W.heap.size≠some b) j:=fun j hj=>
  hj.up (fun b hb'=>hb.block b hb'.1) fun _ hb'=>⟨Nat.lt_of_lt_of_le hb'.1 hb.size,hb'.2.1,fun e=>by cases e;exact absurd hb'.1 (Nat.lt_irrefl _)⟩
 refine⟨s.below,s.size,s.bx,fun p hp=>?_,fun p hp hq=>?_,fun j hj=>e j (h.j j hj),fun j hj=>e j (h.k j hj)⟩
 ·cases hp;exact⟨h.size,Qf rfl⟩
 ·cases hq;exact absurd (lt_of_block (h.bx _ hp).2) (Nat.lt_irrefl _)
theorem S3.okn (h:S3 m V W x y J K)(b:Nat)(h1:W.heap.size<=b/\b<W'.heap.size):b<W'.heap.size/\x≠some b/\y≠some b:=
 ⟨h1.2,fun e=>absurd (lt_of_block (h.bx b e).2) (Nat.not_lt.2 h1.1),fun e=>absurd (lt_of_block (h.byy b e).2) (Nat.not_lt.2 h1.1)⟩
theorem S3.getJ (h:S3 m V W x y none K)(hb:Below W.heap.size W W'){t:Tr}{c:List Sp}{u v z:Value}(hr:t.rda W' (fun b=>W.heap.size<=b/\b<W'.heap.size) u v)(hs:SlA W' (fun b=>W.heap.size<=b/\b<W'.heap.size) 3 SpE z c):S3 m V W' x y (some ((t,c),u,v,z)) K:=by
 have s:=h.step hb
 refine⟨s.below,s.size,s.bx,s.byy,s.ne,fun j hj=>?_,s.k⟩
 cases hj
 exact⟨Zi (fun _ _=>rfl) h.okn _ _ _ hr,hs.up (fun _ _=>rfl) h.okn fun _ _ _ h=>h⟩
theorem S3.getK (h:S3 m V W x y J none)(hb:Below W.heap.size W W'){t:Tr}{c:List Sp}{u v z:Value}(hr:t.rda W' (fun b=>W.heap.size<=b/\b<W'.heap.size) u v)(hs:SlA W' (fun b=>W.heap.size<=b/\b<W'.heap.size) 3 SpE z c):S3 m V W' x y J (some ((t,c),u,v,z)):=by
 have s:=h.step hb
 refine⟨s.below,s.size,s.bx,s.byy,s.ne,s.j,fun j hj=>?_⟩
 cases hj
 exact⟨Zi (fun _ _=>rfl) h.okn _ _ _ hr,hs.up (fun _ _=>rfl) h.okn fun _ _ _ h=>h⟩
theorem S3.fin {p q:Nat}{J K:Kn}{a b c d e f:Value}(h:S3 m V W (some p) (some q) (some (J,a,b,c)) (some (K,d,e,f))) :
  TwoC m V J K (.pointer (some ⟨p,0,none⟩)) (.pointer (some ⟨q,0,none⟩)) ((((((W.setCell ⟨p,0,none⟩ a).setCell ⟨p,1,none⟩ b).setCell ⟨p,2,none⟩ c).setCell ⟨q,0,none⟩ d).setCell ⟨q,1,none⟩ e).setCell ⟨q,2,none⟩ f):=by
 obtain⟨hp,g1⟩:=h.bx p rfl
 obtain⟨hq,g2⟩:=h.byy q rfl
 have hpq:p≠q:=fun e=>h.ne p rfl (by rw[e])
 obtain⟨_,_,_,hK,hS⟩:=box3 g1 a b c
 have hW:=Qe (i:=2) (Qe (i:=1) (Qe (i:=0) g1 a) b) c
 have g3:=(hK q (Ne.symm hpq)).trans g2
 obtain⟨_,_,_,hK2,hS2⟩:=box3 g3 d e f
 have hW2:=Qe (i:=2) (Qe (i:=1) (Qe (i:=0) g3 d) e) f
 have k:Keeps (fun r=>r<W.heap.size/\some p≠some r/\some q≠some r) W ((((((W.setCell ⟨p,0,none⟩ a).setCell ⟨p,1,none⟩ b).setCell ⟨p,2,none⟩ c).setCell ⟨q,0,none⟩ d).setCell ⟨q,1,none⟩ e).setCell ⟨q,2,none⟩ f):=fun r hr=>
  (hK2 r (fun e=>hr.2.2 (by rw[e]))).trans (hK r (fun e=>hr.2.1 (by rw[e])))
 have o:∀ r,r<W.heap.size/\some p≠some r/\some q≠some r->r<((((((W.setCell ⟨p,0,none⟩ a).setCell ⟨p,1,none⟩ b).setCell ⟨p,2,none⟩ c).setCell ⟨q,0,none⟩ d).setCell ⟨q,1,none⟩ e).setCell ⟨q,2,none⟩ f).heap.size:=fun r hr=>by rw[hS2,hS];exact hr.1
 have j:=(h.j _ rfl).up k o
 have l:=(h.k _ rfl).up k o
 exact⟨p,q,a,b,c,d,e,f,rfl,rfl,(hK2 p hpq).trans (by simpa using hW),by simpa using hW2,XL j.1 (fun _ h=>h) (Below.refl _ _),j.2.slp (fun _ h=>h) (Below.refl _ _),XL l.1 (fun _ h=>h) (Below.refl _ _),l.2.slp (fun _ h=>h) (Below.refl _ _),
  (((((h.below.setCell hp _).setCell hp _).setCell hp _).setCell hq _).setCell hq _).setCell hq _⟩
end
def CxS (w:World)(ok:Nat->Prop)(v:Value)(n:Nat):Prop:=∃ A c,v=.slice A n c/\n<=c/\n<=Big/\(n≠0->∃ b off,A=some ⟨b,off,none⟩/\ok b/\UFb w b/\Plain w b off (n*3))
theorem CxS.of {w:World}{ok:Nat->Prop}{v:Value}{c:List Sp}(h:SlU w ok 3 SpE v c):CxS w ok v c.length:=by
 obtain⟨A,n,rfl,a1,a2,a3⟩:=h
 refine⟨A,n,rfl,a1,a2,fun hn=>?_⟩
 obtain⟨b,off,rfl,hb,hc⟩:=a3 (by rintro rfl;simp at hn)
 refine⟨b,off,rfl,hb.1,hb.2,fun i hi=>?_⟩
 have hj:i / 3<c.length:=by omega
 obtain⟨cs,he,hl,hu⟩:=hc (i / 3) _ (List.getElem?_eq_getElem hj)
 have hm:i % 3<cs.length:=by rw[hl];omega
 have:=hu (i % 3) _ (List.getElem?_eq_getElem hm)
 refine⟨_,by rw[show off+i=off+i / 3*3+i % 3 by omega];exact this,?_⟩
 obtain⟨rfl,_⟩:=he
 have h3:i % 3=0∨i % 3=1∨i % 3=2:=by omega
 rcases h3 with h3|h3|h3<;>simp[h3,Zj]
theorem CxS.scr {base:Nat}{w w':World}(h:Scr base w w'){ok:Nat->Prop}(hk:∀ b,ok b->b<w.heap.size){v:Value}{n:Nat}(hc:CxS w ok v n):CxS w' ok v n:=by
 obtain⟨A,c,rfl,a1,a2,a3⟩:=hc
 refine⟨A,c,rfl,a1,a2,fun hn=>?_⟩
 obtain⟨b,off,rfl,ho,hu,hp⟩:=a3 hn
 exact⟨b,off,rfl,ho,h.uf b (hk b ho) hu,hp.scr h (hk b ho)⟩
def KnS (w:World)(ok:Nat->Prop)(g o:Nat)(x:Kn):Prop:=∃ A n B m C k,w.cell? ⟨g,o,none⟩=some (.slice A x.1.es.length n)/\w.cell? ⟨g,o+1,none⟩=some (.slice B x.1.ks.length m)/\w.cell? ⟨g,o+2,none⟩=some (.slice C x.2.length k) /\
 x.1.shp w ok (.slice A x.1.es.length n) (.slice B x.1.ks.length m)/\CxS w ok (.slice C x.2.length k) x.2.length
theorem Scr.head {base:Nat}{w w':World}(h:Scr base w w'){g o:Nat}{A:Option Addr}{n c:Nat}(hg:g<w.heap.size)(hc:w.cell? ⟨g,o,none⟩=some (.slice A n c)):w'.cell? ⟨g,o,none⟩=some (.slice A n c):=by
 obtain⟨v,e1,_,e3⟩:=h.cell g o _ hg hc
 rw[e1,e3 rfl]
theorem KnS.scr {base:Nat}{w w':World}(h:Scr base w w'){ok:Nat->Prop}(hk:∀ b,ok b->b<w.heap.size){g o:Nat}(hg:g<w.heap.size){x:Kn}(hx:KnS w ok g o x):KnS w' ok g o x:=by
 obtain⟨A,n,B,m,C,k,e1,e2,e3,e4,e5⟩:=hx
 exact⟨A,n,B,m,C,k,h.head hg e1,h.head hg e2,h.head hg e3,JD h hk _ _ _ e4,e5.scr h hk⟩
theorem KnS.of {w:World}{ok:Nat->Prop}{g o:Nat}{x:Kn}{a b c:Value}(e1:w.cell? ⟨g,o,none⟩=some a)(e2:w.cell? ⟨g,o+1,none⟩=some b)(e3:w.cell? ⟨g,o+2,none⟩=some c)(h1:x.1.rdu w ok a b)(h2:SlU w ok 3 SpE c x.2):KnS w ok g o x:=by
 obtain⟨A,n,B,m,rfl,rfl⟩:=Ql h1
 obtain⟨C,k,rfl,_⟩:=id h2
 exact⟨A,n,B,m,C,k,e1,e2,e3,qZn _ _ _ h1,CxS.of h2⟩
theorem Scr.span {base:Nat}{w w':World}{b o n i:Nat}(h:Scr base w w')(hp:Plain w' b o n)(hb:base<=b)(hlt:b<w'.heap.size)(hi:i+2<n)(x y z:Int) :
  Scr base w (((w'.setCell ⟨b,o+i,none⟩ (.int .i64 x)).setCell ⟨b,o+i+1,none⟩ (.int .i64 y)).setCell ⟨b,o+i+2,none⟩ (.int .i64 z)):=by
 have s1:=h.put hp hb hlt (i:=i) (u:=.int .i64 x) (by omega) rfl
 have s2:=s1.1.put s1.2.1 hb s1.2.2 (i:=i+1) (u:=.int .i64 y) (by omega) rfl
 exact (s2.1.put s2.2.1 hb s2.2.2 (i:=i+2) (u:=.int .i64 z) (by omega) rfl).1
end Go.Proofs.YtbcoelggdikipaaGreat
