/- What the laws need. No condition but those that each lemma states. -/
import Derived.Deep.QuietTactic
import Derived.RegionTactic
import Derived.Shelf.Abstract
import Derived.Shelf.Slices.CompactS
import Derived.Shelf.Slices.In.SortNone
import Derived.Shelf.Sort.Plain
import Derived.Test.YtbcoelggdikipaaGreatProg
import Derived.Test.YtbcoelggdikipaaGreatUy4
import Derived.Test.YtbcoelggdikipaaGreatUy3
import Derived.Test.YtbcoelggdikipaaGreatUy2
import Derived.Test.YtbcoelggdikipaaGreatUy1
set_option maxRecDepth 100000
set_option maxHeartbeats 8000000
set_option linter.unusedSimpArgs false
namespace Go.Proofs.YtbcoelggdikipaaGreat
open Go.RowKit
theorem Kz (t:Tr):∀ (w:World) (ve vk:Value),t.rd w w.heap.size ve vk->t.sz<=900000 ->
  Calls Tryz.prog 72 #[.agg #[ve,vk]] w (RetT w t):=by
 induction t using Tr.ind with
 |h es ks ih=>
 intro w ve vk h hN
 rw[QC]at h
 rw[Tr.sz]at hN
 have hkl:=ZZ ks
 have HE:=hid h.1
 obtain⟨⟨A1,n,rfl,_⟩,⟨A2,m,rfl,c1,c2,c3⟩⟩:=h
 unfold Big at c2
 have hb0:Below w.heap.size w ((w.alloc (.cells #[.slice A1 es.length n,.slice A2 ks.length m] 25)).alloc (.cells #[.slice none 0 0,.slice none 0 0] 25)):=((Below.refl _ w).alloc (Nat.le_refl _) _).alloc (by simp) _
 go_enter Tryz.func72,Tryz.ntmps72
 go_wp2_with fail
 refine (YX es _ _ (HE.out.imp hb0 hb0.size fun _ _ _ h=>h) (by unfold Few;omega)).mono ?_
 rintro e w1 ⟨v1,rfl,ho1,hb1⟩
 obtain⟨Ae,ce,rfl⟩:=OwnP.shape ho1
 have hs1:=hb1.size
 simp only[World.size_alloc]at hs1
 have hB1:Below w.heap.size w w1:=hb0.trans (hb1.mono (by simp;omega))
 have hg1:w1.heap[w.heap.size+1]?=some (.cells #[.slice none 0 0,.slice none 0 0] 25 (0,0)):=(hb1.block (w.heap.size+1) (by simp)).trans (Qg (by simp))
 have q1:w1.cell? ⟨w.heap.size,1,none⟩=some (.slice A2 ks.length m):=by
  rw[hb1.cell (p:=⟨w.heap.size,1,none⟩) (by simp;omega),World.cell?_alloc_lt _ _ _ (by simp)];simp
 have HG1:=hid hg1
 have HO1:=hid ho1
 have HB1:=hid hb1
 clear hg1 ho1 hb1 hb0
 have hlt0:w.heap.size<w1.heap.size:=by omega
 go_wp2_with fail
 go_loopw [13] (fun i wr=>∃ k:Nat,k<=ks.length/\i=.int .i64 k/\∃ Ak ck,wr.heap[w1.heap.size]?=some (.cells #[.slice Ae es.length ce,.slice Ak (ks.take k).length ck] 25 (0,0)) /\
   OwnD wr (w1.heap.size+1) 96 3 KdA (fun b=>w1.heap.size+1<=b) (.slice Ak (ks.take k).length ck) (ks.take k)/\w1.heap.size+1<=wr.heap.size/\Below w1.heap.size w1 wr) (fun i _=>ks.length-(intOf i).toNat)
 case atStart=>exact⟨0,Nat.zero_le _,rfl,none,0,Qg rfl,OwnP.nil,by simp,(Below.refl _ _).alloc (Nat.le_refl _) _⟩
 case round=>
  obtain⟨k,hk,rfl,Ak,ck,hg,hown,hsz,hb⟩:=hrel
  have hB0:Below w.heap.size w wr:=hB1.trans (hb.mono (by omega))
  have hszk:=hown.lt
  by_cases hlt:k<ks.length
  ·obtain⟨⟨key,t⟩,hx⟩:∃ x,ks[k]?=some x:=⟨_,List.getElem?_eq_getElem hlt⟩
   obtain⟨b,off,rfl,hbB,hc⟩:=c3 (by rintro rfl;simp at hlt)
   obtain⟨cs,⟨ve',vk',rfl,hkb,hrd⟩,_,hu⟩:=hc k _ hx
   obtain⟨A3,n3,A4,n4,rfl,rfl⟩:=Ql hrd
   have hbo:∀ o,wr.cell? ⟨b,o,none⟩=w.cell? ⟨b,o,none⟩:=fun o=>hB0.cell (p:=⟨b,o,none⟩) hbB
   have e0:wr.cell? ⟨b,off+k*3,none⟩=some (.string key):=(hbo _).trans (hu 0 _ rfl)
   have e1:wr.cell? ⟨b,off+k*3+1,none⟩=some (.slice A3 t.es.length n3):=(hbo _).trans (hu 1 _ rfl)
   have e2:wr.cell? ⟨b,off+k*3+2,none⟩=some (.slice A4 t.ks.length n4):=(hbo _).trans (hu 2 _ rfl)
   have hmem:(key,t)∈ks:=List.mem_of_getElem? hx
   have HKB:=hid hkb
   have htz:t.sz<=900000:=by have:=Jg hmem;omega
   have HR:Hid (∀ w',Below w.heap.size w w'->t.rd w' w'.heap.size (.slice A3 t.es.length n3) (.slice A4 t.ks.length n4)):=fun w' hb'=>Qj hb' hb'.size _ _ _ hrd
   have HX:Hid (ks.take (k+1)=ks.take k++[(key,t)]):=by unfold Hid;rw[List.take_add_one,hx];rfl
   have hl1:(ks.take k).length=k:=by simp;omega
   have HL:Hid ((ks.take k).length + [(key,t)].length<=Few):=by unfold Hid Few;rw[hl1];simp;omega
   generalize ks.take k=js at *
   have HIH:=hid (ih key t hmem)
   have c0:wr.cell? ⟨w1.heap.size,1,none⟩=some (.slice Ak js.length ck):=Qa (i:=1) hg
   have hne0:w1.heap.size<wr.heap.size:=by omega
   have hne1:wr.heap.size≠w1.heap.size:=by omega
   have HS:Hid (∀ w',Below (wr.heap.size+1) (wr.alloc (.cells #[.string key,.slice A3 t.es.length n3,.slice A4 t.ks.length n4] 96)) w'->w'.cell? ⟨wr.heap.size,0,none⟩=some (.string key)/\w'.cell? ⟨wr.heap.size,1,none⟩=some (.slice A3 t.es.length n3)/\w'.cell? ⟨wr.heap.size,2,none⟩=some (.slice A4 t.ks.length n4)/\w'.cell? ⟨w1.heap.size,1,none⟩=some (.slice Ak js.length ck)):=fun w' hb'=>by
    refine⟨?_,?_,?_,?_⟩
    ·rw[hb'.cell (p:=⟨wr.heap.size,0,none⟩) (by simp)];simp
    ·rw[hb'.cell (p:=⟨wr.heap.size,1,none⟩) (by simp)];simp
    ·rw[hb'.cell (p:=⟨wr.heap.size,2,none⟩) (by simp)];simp
    ·rw[hb'.cell (p:=⟨w1.heap.size,1,none⟩) (by show w1.heap.size<_;omega),World.cell?_alloc_lt _ _ _ hne0];exact c0
   have HOWN:Hid (∀ W,Below wr.heap.size wr W->OwnD W (w1.heap.size+1) 96 3 KdA (fun b=>w1.heap.size+1<=b) (.slice Ak js.length ck) js):=fun W hW=>hown.grow KdA.mon hW
   have HGW:Hid (∀ W,Below wr.heap.size wr W->W.heap[w1.heap.size]?=some (.cells #[.slice Ae es.length ce,.slice Ak js.length ck] 25 (0,0))):=fun W hW=>(hW.block _ hne0).trans hg
   have hWK:Hid (∀ W,Below (wr.heap.size+1) (wr.alloc (.cells #[.string key,.slice A3 t.es.length n3,.slice A4 t.ks.length n4] 96)) W->Below wr.heap.size wr W):=fun W hW=>((Below.refl _ wr).alloc (Nat.le_refl _) _).trans (hW.mono (by omega))
   have hw1:w1.heap.size<w1.heap.size+1:=by omega
   have HRW:=hid (HR.out _ (hB0.trans ((hWK.out _ ((Below.refl (wr.heap.size+1) (wr.alloc (.cells #[.string key,.slice A3 t.es.length n3,.slice A4 t.ks.length n4] 96))).drew)).mono (by omega))))
   clear hu hbo hx hc c3 hrd hkb hmem ih hg hown hl1
   go_upto_region 5 with (fail)
   obtain⟨z0,z1,z2,z3⟩:=HS.out _ (Below.refl _ _)
   obtain⟨y0,y1,y2,y3⟩:=HS.out _ ((Below.refl (wr.heap.size+1) (wr.alloc (.cells #[.string key,.slice A3 t.es.length n3,.slice A4 t.ks.length n4] 96))).drew)
   go_region_law
    (first
        |(go_simp;go_at_call 72;go_loud ((refine (HIH.out _ _ _ HRW.out htz).mono ?_);rintro e w3 ⟨ve3,vk3,rfl,hrd,hb3⟩;obtain⟨Av,nv,Aw,nw,rfl,rfl⟩:=Qt hrd;have hb3':=hid (((Below.refl (wr.heap.size+1) (wr.alloc (.cells #[.string key,.slice A3 t.es.length n3,.slice A4 t.ks.length n4] 96))).drew).trans (hb3.mono (by simp)));have hs3:=hb3'.out.size;simp only[World.size_alloc]at hs3;obtain⟨p0,p1,p2,p3⟩:=HS.out w3 hb3'.out;have a0:=fun (o:Obj)=>(HS.out (w3.alloc o) (hb3'.out.alloc (by omega) o)).1;have a1:=fun (o:Obj)=>(HS.out (w3.alloc o) (hb3'.out.alloc (by omega) o)).2.1; have a2:=fun (o:Obj)=>(HS.out (w3.alloc o) (hb3'.out.alloc (by omega) o)).2.2.1;have a3:=fun (o:Obj)=>(HS.out (w3.alloc o) (hb3'.out.alloc (by omega) o)).2.2.2))
        |(have hQ3:=hb3';go_loud ((refine Xx (v:=.slice Ak js.length ck) rfl (.tmp 18) (.tmp 25) _ rfl KdA.mon eiKid (by decide) (by decide) rfl (HOWN.out _ (hWK.out _ (hb3'.out.alloc (by omega) _))) rfl (Xg hrd HKB.out (fun b hb=>⟨hb.2,by have:=hb.1;simp only[World.size_drew,World.size_alloc]at *;omega,by rw[World.size_alloc];have:=hb.2;omega,fun e=>by have:=hszk b e;have:=hb.1;simp only[World.size_drew,World.size_alloc]at *;omega⟩) _ (by rw[World.size_alloc];omega)) HL.out (by rw[World.size_alloc];omega) ?_);intro v1 w4 hown4 hb4 _ _;have hsh4:∃ A c,v1=.slice A (js++[(key,t)]).length c:=OwnP.shape hown4;obtain⟨A1,c1,hv1⟩:=hsh4;subst hv1;have hg34:=hid ((hb4.block _ hw1).trans (HGW.out _ (hWK.out _ (hb3'.out.alloc (by omega) _))));have hc4:w4.cell? ⟨w1.heap.size,1,none⟩=some (.slice Ak js.length ck):=Qa (i:=1) hg34.out;have hf4:=Qc (i:=1) hg34.out)))
   all_goals go_wp2_with fail
   all_goals (
    have hW:=hWK.out _ (hb3'.out.alloc (by omega) (.cells #[.string key,.slice Av t.es.length nv,.slice Aw t.ks.length nw] 96))
    have hz4:=hb4.size
    rw[World.size_alloc]at hz4
    refine⟨⟨k+1,by omega,by go_num,A1,c1,?_,?_,?_,?_⟩,by simp[intOf];omega⟩
    ·rw[HX.out];simpa using Qd (i:=1) hg34.out (.slice A1 (js.length+1) c1)
    ·rw[HX.out];exact OwnD.setOther hown4 KdA.mon hw1 (by simp) _
    ·simp[World.setCell];omega
    ·exact ((hb.trans (hW.mono (by omega))).trans (hb4.mono (by omega))).setCell (by simp) _)
  ·obtain rfl:k=ks.length:=by omega
   rw[List.take_of_length_le (Nat.le_refl _)]at hg hown hszk
   have c0:wr.cell? ⟨w1.heap.size,0,none⟩=some (.slice Ae es.length ce):=Qa (i:=0) hg
   have c1:wr.cell? ⟨w1.heap.size,1,none⟩=some (.slice Ak ks.length ck):=Qa (i:=1) hg
   have hg2:wr.heap[w.heap.size+1]?=some (.cells #[.slice none 0 0,.slice none 0 0] 25 (0,0)):=(hb.block _ (by omega)).trans HG1.out
   have d0:wr.cell? ⟨w.heap.size+1,0,none⟩=some (.slice none 0 0):=Qa (i:=0) hg2
   have d1:wr.cell? ⟨w.heap.size+1,1,none⟩=some (.slice none 0 0):=Qa (i:=1) hg2
   have z0:=Qc (i:=0) hg2
   have z1:=Qc (i:=1) hg2
   go_wp2_with fail
   have hW0:=Qd (i:=1) (Qd (i:=0) hg2 (.slice Ae es.length ce)) (.slice Ak ks.length ck)
   have hKW:∀ b,w.heap.size+2<=b->((wr.setCell ⟨w.heap.size+1,0,none⟩ (.slice Ae es.length ce)).setCell ⟨w.heap.size+1,1,none⟩ (.slice Ak ks.length ck)).heap[b]?=wr.heap[b]?:=fun b hb=>(Below.heap_setCell _ _ _ _ (by simp;omega)).trans (Below.heap_setCell _ _ _ _ (by simp;omega))
   have hSW:((wr.setCell ⟨w.heap.size+1,0,none⟩ (.slice Ae es.length ce)).setCell ⟨w.heap.size+1,1,none⟩ (.slice Ak ks.length ck)).heap.size=wr.heap.size:=by simp[World.setCell]
   have hBW:Below w.heap.size w ((wr.setCell ⟨w.heap.size+1,0,none⟩ (.slice Ae es.length ce)).setCell ⟨w.heap.size+1,1,none⟩ (.slice Ak ks.length ck)):=(hB0.setCell (by simp) _).setCell (by simp) _
   clear c0 c1 d0 d1 z0 z1
   generalize ((wr.setCell ⟨w.heap.size+1,0,none⟩ (.slice Ae es.length ce)).setCell ⟨w.heap.size+1,1,none⟩ (.slice Ak ks.length ck))=W at *
   have r0:W.cell? ⟨w.heap.size+1,0,none⟩=some (.slice Ae es.length ce):=(Qa (i:=0) hW0).trans (by simp)
   have r1:W.cell? ⟨w.heap.size+1,1,none⟩=some (.slice Ak ks.length ck):=(Qa (i:=1) hW0).trans (by simp)
   refine bodyPost_ret (v:=.agg #[.slice Ae es.length ce,.slice Ak ks.length ck]) (by simp[results,Tryz.results72,go_sem,r0,r1]) rfl ⟨_,_,rfl,?_,hBW⟩
   rw[Zh]
   refine⟨(HO1.out.sla (by unfold Big;omega)).up (fun b hb'=>(hKW b (by have:=hb'.1;simp only[World.size_alloc]at this;omega)).trans (hb.block b hb'.2.1)) (fun b hb'=>⟨by have:=hb'.1;simp only[World.size_alloc]at this;omega,by have:=hb'.2.1;omega⟩) (fun _ _ _ h=>h),(OwnP.sla hown (by unfold Big;omega)).up (fun b hb'=>hKW b (by have:=hb'.1;omega)) (fun b hb'=>⟨by have:=hb'.1;omega,by have:=hb'.2.1;omega⟩) ?_⟩
   intro x _ cs hx
   exact KdA.mon.up (fun b hb'=>hKW b (by have:=hb'.1;omega)) (fun b hb'=>⟨by have:=hb'.1;omega,by have:=hb'.2.1;omega⟩) hx
theorem KdE.one {w:World}{B:Nat}{x:Kd}{cs:List Value}(h:KdE w B x cs):∀ u∈cs,u.oneCell'=true:=by
 obtain⟨ve,vk,rfl,_,h⟩:=h
 obtain⟨A,n,A',m,rfl,rfl⟩:=Ql h
 simp[Value.oneCell']
def RetGK {w0:World}(B0:Nat)(w:World)(e:Ending)(w':World):Prop:=∃ v,e=.returned v/\OwnP w' w.heap.size 96 3 (KdE w0 B0) v []/\Below w.heap.size w w'
theorem Vr (w0:World)(B0 n:Nat)(w:World)(hn:n<=900000):Calls Tryz.prog 178 #[.slice none 0 0,.int .i64 n] w (RetGK (w0:=w0) B0 w):=by
 rcases Nat.eq_zero_or_pos n with rfl|hp
 ·go_enter Tryz.func178,Tryz.ntmps178
  go_wp2_with fail
  go_ret
  exact⟨_,rfl,OwnP.nil,Below.refl _ _⟩
 ·have ht:=Tryz.underlying23
  obtain⟨i,hi,hz,hs,hby⟩:=info_parts (show (Tryz.prog.info? 96).map (fun i=>(i.zero,i.size,i.bytes))=some (some (.agg #[.string ByteArray.empty,.slice none 0 0,.slice none 0 0]),3,64) by kernel_rfl)
  have hold:(Builtin.firstCells i.size 0 (.slice none 0 0)).run Tryz.prog w.drew=.ok (#[]:Array Value) w.drew:=run_firstCells_none w.drew i.size 0 0 0
  have hrz:∀ ty,(Builtin.append_ #[23,3] ty #[.slice none 0 0,.int .i64 (n:Int)]).run Tryz.prog w=.ok (.slice (some ⟨w.heap.size,0,none⟩) n (grownCap w n 0 96)) (w.drew.alloc (.cells (#[]++Builtin.zeroCells #[.string ByteArray.empty,.slice none 0 0,.slice none 0 0] n++Builtin.zeroCells #[.string ByteArray.empty,.slice none 0 0,.slice none 0 0] (grownCap w n 0 96-n)) 96)):=fun ty=>by
   have h:=Lib.run_append_grow_zeros w 23 3 ty 96 i (.agg #[.string ByteArray.empty,.slice none 0 0,.slice none 0 0]) .i64 .i64 ht Tryz.underlying3 hi hz none 0 0 [] hold n hp (by omega) (by omega) (by omega) (by rw[hby];omega) (by rw[hby,Nat.zero_add];exact growslice_fits hp (by omega))
   simpa[Value.cells] using h
  have hge:=grownCap_ge w n 0 96
  have hle:=grownCap_le_maxLen w n 0 96 (by unfold maxLen;omega)
  generalize grownCap w n 0 96=G at *
  have hG63:G<=9223372036854775807:=by unfold maxLen at hle;omega
  have HLE:=hid hle
  clear hle hold ht hi hz hs hby
  go_enter Tryz.func178,Tryz.ntmps178
  go_wp2_with (at_builtin;refine Lib.wpList_append_run _ rfl _ _ _ _ rfl _ _ rfl rfl _ _ (hrz _) ?_)
  all_goals
   go_ret
   refine⟨_,rfl,⟨[],⟨rfl,fun j x h=>by simp at h⟩,by simp,.inr ⟨w.heap.size,G,_,rfl,Nat.le_refl _,heap_alloc_new _ _,Nat.zero_le _,HLE.out,?_,by simp⟩⟩,((Below.refl w.heap.size w).drew).alloc (Nat.le_refl _) _⟩
   simp[size_zeroCells]
   omega
theorem Jo (w0:World)(B0:Nat)(a b:List Kd)(va vb:Value)(B:Nat)(w:World)(h0:w.cell? ⟨B,0,none⟩=some va)(h1:w.cell? ⟨B,1,none⟩=some vb)(hB:B<w.heap.size)(ha:SlP w w.heap.size 3 (KdE w0 B0) va a)(hb:SlP w w.heap.size 3 (KdE w0 B0) vb b)(hN:a.length<=300000)(hN':b.length<=300000) :
  Calls Tryz.prog 155 #[.slice (some ⟨B,0,none⟩) 2 2] w (RetO w 96 3 (fun _=>KdE w0 B0) (a++b)):=by
 have HA:=hid ha
 have HB:=hid hb
 obtain⟨A1,c1,rfl,_⟩:=ha
 obtain⟨A2,c2,rfl,_⟩:=hb
 have hla:((catK a b 2).length:Int)=a.length+b.length:=by simp[catK]
 go_enter Tryz.func155,Tryz.ntmps155
 go_wp2_with fail
 go_loop [3,11] (fun s i=>∃ k:Nat,k<=2/\i=.int .i64 k/\s=.int .i64 ((catK a b k).length:Nat)) (fun _ i=>2-(intOf i).toNat)
 case atStart=>exact⟨0,by omega,rfl,rfl⟩
 case round=>
  obtain⟨k,hk,rfl,rfl⟩:=hrel
  match k,hk with
  |0,_=>
   clear hla
   simp only[catK,List.length_nil]
   go_wp2_with fail
   go_round
   case rel=>exact⟨1,by omega,rfl,by simp⟩
   case measure=>simp[intOf]
  |1,_=>
   clear hla
   simp only[catK]
   go_wp2_with fail
   go_round
   case rel=>exact⟨2,by omega,rfl,by simp⟩
   case measure=>simp[intOf]
  |2,_=>
   obtain⟨m,hm⟩:∃ m:Nat,m=(catK a b 2).length:=⟨_,rfl⟩
   rw[←hm]at hla ⊢
   have hm2:m<=600000:=by omega
   clear hla hm
   go_wp2_with fail
   refine (Vr w0 B0 m w (by omega)).mono ?_
   rintro e w1 ⟨v1,rfl,ho1,hb1⟩
   have hs1:=hb1.size
   go_wp2_with fail
   go_loopw [6,27] (fun v i wr=>∃ k:Nat,k<=2/\i=.int .i64 k/\OwnP wr w.heap.size 96 3 (KdE w0 B0) v (catK a b k)/\Below w.heap.size w wr) (fun _ i _=>2-(intOf i).toNat)
   case atStart=>exact⟨0,by omega,rfl,ho1,hb1⟩
   case round=>
    obtain⟨k,hk,rfl,hown,hbr⟩:=hrel
    have hsz:=hbr.size
    have e0:wr.cell? ⟨B,0,none⟩=some (.slice A1 a.length c1):=(hbr.cell (p:=⟨B,0,none⟩) hB).trans h0
    have e1:wr.cell? ⟨B,1,none⟩=some (.slice A2 b.length c2):=(hbr.cell (p:=⟨B,1,none⟩) hB).trans h1
    have HSA:=hid (HA.out.imp hbr hsz fun _ _ _ h=>h)
    have HSB:=hid (HB.out.imp hbr hsz fun _ _ _ h=>h)
    match k,hk with
    |0,_=>
     have HL:Hid ((catK a b 0).length+a.length<=Few):=by unfold Hid Few;simp[catK];omega
     go_wp2_with (at_builtin;refine Qi rfl (.tmp 31) (.tmp 32) _ rfl eiKid (by decide) (by decide) (fun _ _ h=>h.one) rfl hown rfl HSA.out HL.out hsz ?_;intro v2 w2 hown2 hb2 _)
     go_roundw
     case rel=>exact⟨1,by omega,rfl,by simpa[catK] using hown2,hbr.trans hb2⟩
     case measure=>simp[intOf]
    |1,_=>
     have HL:Hid ((catK a b 1).length+b.length<=Few):=by unfold Hid Few;simp[catK];omega
     go_wp2_with (at_builtin;refine Qi rfl (.tmp 31) (.tmp 32) _ rfl eiKid (by decide) (by decide) (fun _ _ h=>h.one) rfl hown rfl HSB.out HL.out hsz ?_;intro v2 w2 hown2 hb2 _)
     go_roundw
     case rel=>exact⟨2,by omega,rfl,by simpa[catK] using hown2,hbr.trans hb2⟩
     case measure=>simp[intOf]
    |2,_=>
     go_wp2_with fail
     go_ret
     exact⟨_,rfl,hown,hbr⟩
def RetTK (w:World)(t:Tr)(e:Ending)(w':World):Prop:=
 ∃ A n vk,e=.returned (.agg #[.slice A t.es.length n,vk])/\OwnD w' w.heap.size 96 3 KdA (fun b=>w.heap.size<=b) vk t.ks/\Below w.heap.size w w'
theorem JC (t:Tr)(w:World)(ve vk:Value)(h:t.rd w w.heap.size ve vk)(hN:t.sz<=900000) :
  Calls Tryz.prog 72 #[.agg #[ve,vk]] w (RetTK w t):=by
 obtain⟨es,ks⟩:=t
 rw[QC]at h
 rw[Tr.sz]at hN
 have hkl:=ZZ ks
 have HE:=hid h.1
 obtain⟨⟨A1,n,rfl,_⟩,⟨A2,m,rfl,c1,c2,c3⟩⟩:=h
 unfold Big at c2
 have hb0:Below w.heap.size w ((w.alloc (.cells #[.slice A1 es.length n,.slice A2 ks.length m] 25)).alloc (.cells #[.slice none 0 0,.slice none 0 0] 25)):=((Below.refl _ w).alloc (Nat.le_refl _) _).alloc (by simp) _
 go_enter Tryz.func72,Tryz.ntmps72
 go_wp2_with fail
 refine (YX es _ _ (HE.out.imp hb0 hb0.size fun _ _ _ h=>h) (by unfold Few;omega)).mono ?_
 rintro e w1 ⟨v1,rfl,ho1,hb1⟩
 obtain⟨Ae,ce,rfl⟩:=OwnP.shape ho1
 have hs1:=hb1.size
 simp only[World.size_alloc]at hs1
 have hB1:Below w.heap.size w w1:=hb0.trans (hb1.mono (by simp;omega))
 have hg1:w1.heap[w.heap.size+1]?=some (.cells #[.slice none 0 0,.slice none 0 0] 25 (0,0)):=(hb1.block (w.heap.size+1) (by simp)).trans (Qg (by simp))
 have q1:w1.cell? ⟨w.heap.size,1,none⟩=some (.slice A2 ks.length m):=by
  rw[hb1.cell (p:=⟨w.heap.size,1,none⟩) (by simp;omega),World.cell?_alloc_lt _ _ _ (by simp)];simp
 have HG1:=hid hg1
 have HO1:=hid ho1
 have HB1:=hid hb1
 clear hg1 ho1 hb1 hb0
 have hlt0:w.heap.size<w1.heap.size:=by omega
 go_wp2_with fail
 go_loopw [13] (fun i wr=>∃ k:Nat,k<=ks.length/\i=.int .i64 k/\∃ Ak ck,wr.heap[w1.heap.size]?=some (.cells #[.slice Ae es.length ce,.slice Ak (ks.take k).length ck] 25 (0,0)) /\
   OwnD wr (w1.heap.size+1) 96 3 KdA (fun b=>w1.heap.size+1<=b) (.slice Ak (ks.take k).length ck) (ks.take k)/\w1.heap.size+1<=wr.heap.size/\Below w1.heap.size w1 wr) (fun i _=>ks.length-(intOf i).toNat)
 case atStart=>exact⟨0,Nat.zero_le _,rfl,none,0,Qg rfl,OwnP.nil,by simp,(Below.refl _ _).alloc (Nat.le_refl _) _⟩
 case round=>
  obtain⟨k,hk,rfl,Ak,ck,hg,hown,hsz,hb⟩:=hrel
  have hB0:Below w.heap.size w wr:=hB1.trans (hb.mono (by omega))
  have hszk:=hown.lt
  by_cases hlt:k<ks.length
  ·obtain⟨⟨key,t⟩,hx⟩:∃ x,ks[k]?=some x:=⟨_,List.getElem?_eq_getElem hlt⟩
   obtain⟨b,off,rfl,hbB,hc⟩:=c3 (by rintro rfl;simp at hlt)
   obtain⟨cs,⟨ve',vk',rfl,hkb,hrd⟩,_,hu⟩:=hc k _ hx
   obtain⟨A3,n3,A4,n4,rfl,rfl⟩:=Ql hrd
   have hbo:∀ o,wr.cell? ⟨b,o,none⟩=w.cell? ⟨b,o,none⟩:=fun o=>hB0.cell (p:=⟨b,o,none⟩) hbB
   have e0:wr.cell? ⟨b,off+k*3,none⟩=some (.string key):=(hbo _).trans (hu 0 _ rfl)
   have e1:wr.cell? ⟨b,off+k*3+1,none⟩=some (.slice A3 t.es.length n3):=(hbo _).trans (hu 1 _ rfl)
   have e2:wr.cell? ⟨b,off+k*3+2,none⟩=some (.slice A4 t.ks.length n4):=(hbo _).trans (hu 2 _ rfl)
   have hmem:(key,t)∈ks:=List.mem_of_getElem? hx
   have HKB:=hid hkb
   have htz:t.sz<=900000:=by have:=Jg hmem;omega
   have HR:Hid (∀ w',Below w.heap.size w w'->t.rd w' w'.heap.size (.slice A3 t.es.length n3) (.slice A4 t.ks.length n4)):=fun w' hb'=>Qj hb' hb'.size _ _ _ hrd
   have HX:Hid (ks.take (k+1)=ks.take k++[(key,t)]):=by unfold Hid;rw[List.take_add_one,hx];rfl
   have hl1:(ks.take k).length=k:=by simp;omega
   have HL:Hid ((ks.take k).length + [(key,t)].length<=Few):=by unfold Hid Few;rw[hl1];simp;omega
   generalize ks.take k=js at *
   have HIH:=hid (Kz t)
   have c0:wr.cell? ⟨w1.heap.size,1,none⟩=some (.slice Ak js.length ck):=Qa (i:=1) hg
   have hne0:w1.heap.size<wr.heap.size:=by omega
   have hne1:wr.heap.size≠w1.heap.size:=by omega
   have HS:Hid (∀ w',Below (wr.heap.size+1) (wr.alloc (.cells #[.string key,.slice A3 t.es.length n3,.slice A4 t.ks.length n4] 96)) w'->w'.cell? ⟨wr.heap.size,0,none⟩=some (.string key)/\w'.cell? ⟨wr.heap.size,1,none⟩=some (.slice A3 t.es.length n3)/\w'.cell? ⟨wr.heap.size,2,none⟩=some (.slice A4 t.ks.length n4)/\w'.cell? ⟨w1.heap.size,1,none⟩=some (.slice Ak js.length ck)):=fun w' hb'=>by
    refine⟨?_,?_,?_,?_⟩
    ·rw[hb'.cell (p:=⟨wr.heap.size,0,none⟩) (by simp)];simp
    ·rw[hb'.cell (p:=⟨wr.heap.size,1,none⟩) (by simp)];simp
    ·rw[hb'.cell (p:=⟨wr.heap.size,2,none⟩) (by simp)];simp
    ·rw[hb'.cell (p:=⟨w1.heap.size,1,none⟩) (by show w1.heap.size<_;omega),World.cell?_alloc_lt _ _ _ hne0];exact c0
   have HOWN:Hid (∀ W,Below wr.heap.size wr W->OwnD W (w1.heap.size+1) 96 3 KdA (fun b=>w1.heap.size+1<=b) (.slice Ak js.length ck) js):=fun W hW=>hown.grow KdA.mon hW
   have HGW:Hid (∀ W,Below wr.heap.size wr W->W.heap[w1.heap.size]?=some (.cells #[.slice Ae es.length ce,.slice Ak js.length ck] 25 (0,0))):=fun W hW=>(hW.block _ hne0).trans hg
   have hWK:Hid (∀ W,Below (wr.heap.size+1) (wr.alloc (.cells #[.string key,.slice A3 t.es.length n3,.slice A4 t.ks.length n4] 96)) W->Below wr.heap.size wr W):=fun W hW=>((Below.refl _ wr).alloc (Nat.le_refl _) _).trans (hW.mono (by omega))
   have hw1:w1.heap.size<w1.heap.size+1:=by omega
   have HRW:=hid (HR.out _ (hB0.trans ((hWK.out _ ((Below.refl (wr.heap.size+1) (wr.alloc (.cells #[.string key,.slice A3 t.es.length n3,.slice A4 t.ks.length n4] 96))).drew)).mono (by omega))))
   clear hu hbo hx hc c3 hrd hkb hmem hg hown hl1
   go_upto_region 5 with (fail)
   obtain⟨z0,z1,z2,z3⟩:=HS.out _ (Below.refl _ _)
   obtain⟨y0,y1,y2,y3⟩:=HS.out _ ((Below.refl (wr.heap.size+1) (wr.alloc (.cells #[.string key,.slice A3 t.es.length n3,.slice A4 t.ks.length n4] 96))).drew)
   go_region_law
    (first
        |(go_simp;go_at_call 72;go_loud ((refine (HIH.out _ _ _ HRW.out htz).mono ?_);rintro e w3 ⟨ve3,vk3,rfl,hrd,hb3⟩;obtain⟨Av,nv,Aw,nw,rfl,rfl⟩:=Qt hrd;have hb3':=hid (((Below.refl (wr.heap.size+1) (wr.alloc (.cells #[.string key,.slice A3 t.es.length n3,.slice A4 t.ks.length n4] 96))).drew).trans (hb3.mono (by simp)));have hs3:=hb3'.out.size;simp only[World.size_alloc]at hs3;obtain⟨p0,p1,p2,p3⟩:=HS.out w3 hb3'.out;have a0:=fun (o:Obj)=>(HS.out (w3.alloc o) (hb3'.out.alloc (by omega) o)).1;have a1:=fun (o:Obj)=>(HS.out (w3.alloc o) (hb3'.out.alloc (by omega) o)).2.1; have a2:=fun (o:Obj)=>(HS.out (w3.alloc o) (hb3'.out.alloc (by omega) o)).2.2.1;have a3:=fun (o:Obj)=>(HS.out (w3.alloc o) (hb3'.out.alloc (by omega) o)).2.2.2))
        |(have hQ3:=hb3';go_loud ((refine Xx (v:=.slice Ak js.length ck) rfl (.tmp 18) (.tmp 25) _ rfl KdA.mon eiKid (by decide) (by decide) rfl (HOWN.out _ (hWK.out _ (hb3'.out.alloc (by omega) _))) rfl (Xg hrd HKB.out (fun b hb=>⟨hb.2,by have:=hb.1;simp only[World.size_drew,World.size_alloc]at *;omega,by rw[World.size_alloc];have:=hb.2;omega,fun e=>by have:=hszk b e;have:=hb.1;simp only[World.size_drew,World.size_alloc]at *;omega⟩) _ (by rw[World.size_alloc];omega)) HL.out (by rw[World.size_alloc];omega) ?_);intro v1 w4 hown4 hb4 _ _;have hsh4:∃ A c,v1=.slice A (js++[(key,t)]).length c:=OwnP.shape hown4;obtain⟨A1,c1,hv1⟩:=hsh4;subst hv1;have hg34:=hid ((hb4.block _ hw1).trans (HGW.out _ (hWK.out _ (hb3'.out.alloc (by omega) _))));have hc4:w4.cell? ⟨w1.heap.size,1,none⟩=some (.slice Ak js.length ck):=Qa (i:=1) hg34.out;have hf4:=Qc (i:=1) hg34.out)))
   all_goals go_wp2_with fail
   all_goals (
    have hW:=hWK.out _ (hb3'.out.alloc (by omega) (.cells #[.string key,.slice Av t.es.length nv,.slice Aw t.ks.length nw] 96))
    have hz4:=hb4.size
    rw[World.size_alloc]at hz4
    refine⟨⟨k+1,by omega,by go_num,A1,c1,?_,?_,?_,?_⟩,by simp[intOf];omega⟩
    ·rw[HX.out];simpa using Qd (i:=1) hg34.out (.slice A1 (js.length+1) c1)
    ·rw[HX.out];exact OwnD.setOther hown4 KdA.mon hw1 (by simp) _
    ·simp[World.setCell];omega
    ·exact ((hb.trans (hW.mono (by omega))).trans (hb4.mono (by omega))).setCell (by simp) _)
  ·obtain rfl:k=ks.length:=by omega
   rw[List.take_of_length_le (Nat.le_refl _)]at hg hown hszk
   have c0:wr.cell? ⟨w1.heap.size,0,none⟩=some (.slice Ae es.length ce):=Qa (i:=0) hg
   have c1:wr.cell? ⟨w1.heap.size,1,none⟩=some (.slice Ak ks.length ck):=Qa (i:=1) hg
   have hg2:wr.heap[w.heap.size+1]?=some (.cells #[.slice none 0 0,.slice none 0 0] 25 (0,0)):=(hb.block _ (by omega)).trans HG1.out
   have d0:wr.cell? ⟨w.heap.size+1,0,none⟩=some (.slice none 0 0):=Qa (i:=0) hg2
   have d1:wr.cell? ⟨w.heap.size+1,1,none⟩=some (.slice none 0 0):=Qa (i:=1) hg2
   have z0:=Qc (i:=0) hg2
   have z1:=Qc (i:=1) hg2
   go_wp2_with fail
   have hW0:=Qd (i:=1) (Qd (i:=0) hg2 (.slice Ae es.length ce)) (.slice Ak ks.length ck)
   have hKW:∀ b,w.heap.size+2<=b->((wr.setCell ⟨w.heap.size+1,0,none⟩ (.slice Ae es.length ce)).setCell ⟨w.heap.size+1,1,none⟩ (.slice Ak ks.length ck)).heap[b]?=wr.heap[b]?:=fun b hb=>(Below.heap_setCell _ _ _ _ (by simp;omega)).trans (Below.heap_setCell _ _ _ _ (by simp;omega))
   have hSW:((wr.setCell ⟨w.heap.size+1,0,none⟩ (.slice Ae es.length ce)).setCell ⟨w.heap.size+1,1,none⟩ (.slice Ak ks.length ck)).heap.size=wr.heap.size:=by simp[World.setCell]
   have hBW:Below w.heap.size w ((wr.setCell ⟨w.heap.size+1,0,none⟩ (.slice Ae es.length ce)).setCell ⟨w.heap.size+1,1,none⟩ (.slice Ak ks.length ck)):=(hB0.setCell (by simp) _).setCell (by simp) _
   clear c0 c1 d0 d1 z0 z1
   generalize ((wr.setCell ⟨w.heap.size+1,0,none⟩ (.slice Ae es.length ce)).setCell ⟨w.heap.size+1,1,none⟩ (.slice Ak ks.length ck))=W at *
   have r0:W.cell? ⟨w.heap.size+1,0,none⟩=some (.slice Ae es.length ce):=(Qa (i:=0) hW0).trans (by simp)
   have r1:W.cell? ⟨w.heap.size+1,1,none⟩=some (.slice Ak ks.length ck):=(Qa (i:=1) hW0).trans (by simp)
   refine bodyPost_ret (v:=.agg #[.slice Ae es.length ce,.slice Ak ks.length ck]) (by simp[results,Tryz.results72,go_sem,r0,r1]) rfl ⟨_,_,_,rfl,?_,hBW⟩
   exact ((OwnP.keep hown fun q hq=>hKW q (by have:=(OwnP.lt hown q hq).1;omega)).mono (by omega)).imp fun x _ cs hx=>KdA.mon.up (fun b hb'=>hKW b (by have:=hb'.1;omega)) (fun b hb'=>⟨by have:=hb'.1;omega,by rw[hSW];exact hb'.2.1,hb'.2.2⟩) hx
end Go.Proofs.YtbcoelggdikipaaGreat
namespace Go.Proofs
open Go.Shelf
def Tryz.sortStr_ren:Go.Shelf.Ren:=⟨fun|190=>129|125=>167|258=>166|128=>200|129=>201|302=>191|303=>192|304=>193|305=>194|306=>195|307=>196|308=>197|309=>198|310=>199|333=>211|329=>212|330=>213|334=>214|335=>215|336=>207|344=>226|n=>n,fun|31=>30|9=>9|3=>3|46=>193|0=>0|51=>226|53=>228|4=>4|183=>219|182=>218|131=>204|5=>5|218=>236|222=>240|228=>249|229=>250|n=>n,fun|n=>n⟩
theorem Tryz.sortStr:Go.Proofs.Lays.n190 Tryz.prog Tryz.sortStr_ren:={
 mixed:=by kernel_rfl
 f125:=Tryz.func167.trans (congrArg some (by kernel_rfl))
 f128:=Tryz.func200.trans (congrArg some (by kernel_rfl))
 f129:=Tryz.func201.trans (congrArg some (by kernel_rfl))
 f190:=Tryz.func129.trans (congrArg some (by kernel_rfl))
 f258:=Tryz.func166.trans (congrArg some (by kernel_rfl))
 f302:=Tryz.func191.trans (congrArg some (by kernel_rfl))
 f303:=Tryz.func192.trans (congrArg some (by kernel_rfl))
 f304:=Tryz.func193.trans (congrArg some (by kernel_rfl))
 f305:=Tryz.func194.trans (congrArg some (by kernel_rfl))
 f306:=Tryz.func195.trans (congrArg some (by kernel_rfl))
 f307:=Tryz.func196.trans (congrArg some (by kernel_rfl))
 f308:=Tryz.func197.trans (congrArg some (by kernel_rfl))
 f309:=Tryz.func198.trans (congrArg some (by kernel_rfl))
 f310:=Tryz.func199.trans (congrArg some (by kernel_rfl))
 f329:=Tryz.func212.trans (congrArg some (by kernel_rfl))
 f330:=Tryz.func213.trans (congrArg some (by kernel_rfl))
 f333:=Tryz.func211.trans (congrArg some (by kernel_rfl))
 f334:=Tryz.func214.trans (congrArg some (by kernel_rfl))
 f335:=Tryz.func215.trans (congrArg some (by kernel_rfl))
 f336:=Tryz.func207.trans (congrArg some (by kernel_rfl))
 f344:=Tryz.func226.trans (congrArg some (by kernel_rfl))
 t0:=Tryz.underlying0
 a0:=Tryz.isAgg0
 z0:=Tryz.sizeOf0
 v0:=Tryz.zeroValue0
 t3:=Tryz.underlying3
 a3:=Tryz.isAgg3
 z3:=Tryz.sizeOf3
 v3:=Tryz.zeroValue3
 t4:=Tryz.underlying4
 a4:=Tryz.isAgg4
 z4:=Tryz.sizeOf4
 v4:=Tryz.zeroValue4
 t5:=Tryz.underlying5
 a5:=Tryz.isAgg5
 z5:=Tryz.sizeOf5
 v5:=Tryz.zeroValue5
 t9:=Tryz.underlying9
 a9:=Tryz.isAgg9
 z9:=Tryz.sizeOf9
 v9:=Tryz.zeroValue9
 t31:=Tryz.underlying30
 a31:=Tryz.isAgg30
 z31:=Tryz.sizeOf30
 v31:=Tryz.zeroValue30
 t46:=Tryz.underlying193
 a46:=Tryz.isAgg193
 z46:=Tryz.sizeOf193
 v46:=Tryz.zeroValue193
 t51:=Tryz.underlying226
 a51:=Tryz.isAgg226
 z51:=Tryz.sizeOf226
 v51:=Tryz.zeroValue226
 t53:=Tryz.underlying228
 a53:=Tryz.isAgg228
 z53:=Tryz.sizeOf228
 v53:=Tryz.zeroValue228
 t131:=Tryz.underlying204
 a131:=Tryz.isAgg204
 z131:=Tryz.sizeOf204
 v131:=Tryz.zeroValue204
 t182:=Tryz.underlying218
 a182:=Tryz.isAgg218
 z182:=Tryz.sizeOf218
 v182:=Tryz.zeroValue218
 t183:=Tryz.underlying219
 a183:=Tryz.isAgg219
 z183:=Tryz.sizeOf219
 v183:=Tryz.zeroValue219
 t218:=Tryz.underlying236
 a218:=Tryz.isAgg236
 z218:=Tryz.sizeOf236
 v218:=Tryz.zeroValue236
 t222:=Tryz.underlying240
 a222:=Tryz.isAgg240
 z222:=Tryz.sizeOf240
 v222:=Tryz.zeroValue240
 t228:=Tryz.underlying249
 a228:=Tryz.isAgg249
 z228:=Tryz.sizeOf249
 v228:=Tryz.zeroValue249
 t229:=Tryz.underlying250
 a229:=Tryz.isAgg250
 z229:=Tryz.sizeOf250
 v229:=Tryz.zeroValue250 }
def Tryz.compactStr_ren:Go.Shelf.Ren:=⟨fun|194=>130|n=>n,fun|31=>30|9=>9|3=>3|4=>4|0=>0|n=>n,fun|n=>n⟩
theorem Tryz.compactStr:Go.Proofs.Lays.n194 Tryz.prog Tryz.compactStr_ren:={
 mixed:=by kernel_rfl
 f194:=Tryz.func130.trans (congrArg some (by kernel_rfl))
 t0:=Tryz.underlying0
 a0:=Tryz.isAgg0
 z0:=Tryz.sizeOf0
 v0:=Tryz.zeroValue0
 t3:=Tryz.underlying3
 a3:=Tryz.isAgg3
 z3:=Tryz.sizeOf3
 v3:=Tryz.zeroValue3
 t4:=Tryz.underlying4
 a4:=Tryz.isAgg4
 z4:=Tryz.sizeOf4
 v4:=Tryz.zeroValue4
 t9:=Tryz.underlying9
 a9:=Tryz.isAgg9
 z9:=Tryz.sizeOf9
 v9:=Tryz.zeroValue9
 t31:=Tryz.underlying30
 a31:=Tryz.isAgg30
 z31:=Tryz.sizeOf30
 v31:=Tryz.zeroValue30 }
end Go.Proofs
namespace Go.Proofs.YtbcoelggdikipaaGreat
open Go.RowKit
def joinS (out:List (Int×Int))(r:Int×Int):List (Int×Int):=
 match out.getLast? with
 |some q=>if r.1<=q.2+1 then out.set (out.length-1) (q.1,max q.2 r.2) else out++[r]
 |none=>[r]
def joinL (l:List (Int×Int)):List (Int×Int):=l.foldl joinS []
theorem Y0 {l:List (Int×Int)}{k:Nat}{x:Int×Int}(h:l[k]?=some x):joinL (l.take (k+1))=joinS (joinL (l.take k)) x:=by
 unfold joinL;rw[List.take_add_one,h,List.foldl_append];rfl
theorem Vw (out:List (Int×Int))(r:Int×Int):(joinS out r).length<=out.length+1:=by
 unfold joinS;split
 ·split<;>simp
 ·simp
theorem YB (l:List (Int×Int)):∀ k,(joinL (l.take k)).length<=k
 |0=>by simp[joinL]
 |k+1=>by
  cases h:l[k]? with
  |none=>
   have h1:=List.getElem?_eq_none_iff.1 h
   rw[List.take_of_length_le (by omega),←List.take_of_length_le (i:=k) h1]
   have:=YB l k
   rw[List.take_of_length_le h1]at this ⊢;omega
  |some x=>
   rw[Y0 h]
   have:=YB l k
   have:=Vw (joinL (l.take k)) x
   omega
theorem qQj {out:List (Int×Int)}{r:Int×Int}(h:QK out)(hr:0<=r.1/\r.1<=1099511627777/\0<=r.2/\r.2<=1099511627777):QK (joinS out r):=by
 intro x hx
 unfold joinS at hx
 split at hx
 ·rename_i q hq
  split at hx
  ·rcases List.mem_or_eq_of_mem_set hx with hx|rfl
   ·exact h x hx
   ·have:=h q (List.mem_of_getLast? hq)
    refine⟨this.1,this.2.1,?_,?_⟩<;>simp only[Int.max_def]<;>split<;>omega
  ·rcases List.mem_append.1 hx with hx|hx
   ·exact h x hx
   ·simp at hx;subst hx;exact hr
 ·simp at hx;subst hx;exact hr
theorem qQk {l:List (Int×Int)}(h:QK l):QK (joinL l):=by
 unfold joinL
 suffices ∀ (l out:List (Int×Int)),QK l->QK out->QK (l.foldl joinS out) from this l [] h (fun _ h=>by cases h)
 intro l
 induction l with
 |nil=>intro out _ ho;exact ho
 |cons x l ih=>intro out hl ho;exact ih _ (fun r hr=>hl r (List.mem_cons_of_mem _ hr)) (qQj ho (hl x (by simp)))
theorem KA (L:List (Int×Int))(q r:Int×Int):joinS (L++[q]) r=if r.1<=q.2+1 then L++[(q.1,max q.2 r.2)] else L++[q]++[r]:=by
 unfold joinS
 rw[List.getLast?_concat]
 simp
theorem Jr {out:List (Int×Int)}{r:Int×Int}(h:runsR none out=true)(hr:runOk r)(ho:∀ q,out.getLast?=some q->q.1<=r.1) :
  runsR none (joinS out r)=true/\(∀ n,hasL (joinS out r) n=(hasL out n||inR r n))/\(∀ q,(joinS out r).getLast?=some q->q.1<=r.1):=by
 rcases List.eq_nil_or_concat out with rfl|⟨L,q,rfl⟩
 ·refine⟨?_,fun n=>?_,fun q hq=>?_⟩
  ·exact (Zb none r).2 ⟨hr,rfl⟩
  ·simp[joinS,hasL]
  ·simp[joinS]at hq;subst hq;exact Int.le_refl _
 ·rw[List.concat_eq_append]at *
  have hq:=ho q (by simp)
  have hqo:=Zr L none q h
  rw[KA]
  unfold runOk at *
  split
  ·rename_i hc
   refine⟨Z9 L none q _ h (by omega) (by omega),fun n=>?_,fun x hx=>?_⟩
   ·rw[Q2,Q2,Bool.or_assoc]
    congr 1
    rw[Bool.eq_iff_iff]
    simp[hasL,inR]
    omega
   ·simp at hx;subst hx;exact hq
  ·rename_i hc
   refine⟨(Z8 L none q r).2 ⟨h,hr,by omega⟩,fun n=>?_,fun x hx=>?_⟩
   ·rw[Q2];simp[hasL]
   ·simp at hx;subst hx;exact Int.le_refl _
theorem YC {l:List (Int×Int)}(hl:∀ r∈l,runOk r)(hs:l.Pairwise fun a b=>a.1<=b.1):runsR none (joinL l)=true/\∀ n,hasL (joinL l) n=hasL l n:=by
 suffices ∀ (l out:List (Int×Int)),(∀ r∈l,runOk r)->l.Pairwise (fun a b=>a.1<=b.1)->runsR none out=true->(∀ q,out.getLast?=some q->∀ r∈l,q.1<=r.1) ->
   runsR none (l.foldl joinS out)=true/\∀ n,hasL (l.foldl joinS out) n=(hasL out n||hasL l n) by
  have:=this l [] hl hs rfl (fun q h=>by simp at h)
  exact⟨this.1,fun n=>by rw[joinL,this.2];simp[hasL]⟩
 intro l
 induction l with
 |nil=>intro out _ _ h _;exact⟨h,fun n=>by simp[hasL]⟩
 |cons r l ih=>
  intro out hl hs h ho
  rw[List.pairwise_cons]at hs
  obtain⟨j1,j2,j3⟩:=Jr h (hl r (by simp)) (fun q hq=>ho q hq r (by simp))
  obtain⟨k1,k2⟩:=ih (joinS out r) (fun x hx=>hl x (by simp[hx])) hs.2 j1 (fun q hq x hx=>Int.le_trans (j3 q hq) (hs.1 x hx))
  refine⟨k1,fun n=>?_⟩
  rw[List.foldl_cons,k2,j2,Bool.or_assoc];simp[hasL]
theorem OwnP.drewN {α:Type}{w:World}{base:Nat}{e:TypeId}{sz:Nat}{E:α->List Value->Prop}{v:Value}{xs:List α}(h:OwnP w base e sz E v xs)(n:Nat):OwnP (w.drewN n) base e sz E v xs:=h.keep fun _ _=>rfl
theorem Xr {B:Nat}{a w:World}(h:Below B a w)(n:Nat):Below B a (w.drewN n):=h.trans ⟨rfl,rfl,rfl,Nat.le_refl _,fun _ _=>rfl⟩
theorem YD (l:List (Int×Int))(v:Value)(w:World)(h:SlP w w.heap.size 2 RuE v l)(hN:l.length<=900000)(hR:QK l) :
  Calls Tryz.prog 186 #[v] w (RetO w 167 2 (fun _=>RuE) (joinL l)):=by
 obtain⟨A,n,rfl,b1,b2,b3⟩:=h
 unfold Big at b2
 go_enter Tryz.func186,Tryz.ntmps186
 go_wp2_with fail
 go_loopw [3,9] (fun v i wr=>∃ k:Nat,k<=l.length/\i=.int .i64 k/\OwnP wr w.heap.size 167 2 RuE v (joinL (l.take k))/\Below w.heap.size w wr) (fun _ i _=>l.length-(intOf i).toNat)
 case atStart=>exact⟨0,Nat.zero_le _,rfl,OwnP.nil,Below.refl _ _⟩
 case round=>
  obtain⟨k,hk,rfl,hown,hb⟩:=hrel
  have hsz:=hb.size
  by_cases hlt:k<l.length
  ·obtain⟨r,hx⟩:∃ x,l[k]?=some x:=⟨_,List.getElem?_eq_getElem hlt⟩
   obtain⟨b,off,rfl,hbB,hc⟩:=b3 (by rintro rfl;simp at hlt)
   obtain⟨cs,⟨rfl,hok⟩,_,hu⟩:=hc k _ hx
   have e0:wr.cell? ⟨b,off+k*2,none⟩=some (.int .i64 r.1):=(hb.cell hbB).trans (hu 0 _ rfl)
   have e1:wr.cell? ⟨b,off+k*2+1,none⟩=some (.int .i64 r.2):=(hb.cell hbB).trans (hu 1 _ rfl)
   have hr:=hR r (List.mem_of_getElem? hx)
   have HJ:Hid (joinL (l.take (k+1))=joinS (joinL (l.take k)) r):=Y0 hx
   have hol:=YB l k
   have hjo:QK (joinL (l.take k)):=qQk fun x hx=>hR x (List.mem_of_mem_take hx)
   have HRE:Hid (RuE r [.int .i64 r.1,.int .i64 r.2]):=⟨rfl,hok⟩
   generalize joinL (l.take k)=out at *
   have HL:Hid (out.length + [r].length<=Few):=by unfold Hid Few;simp;omega
   clear hu hc b3 hx hok
   rcases Nat.eq_zero_or_pos out.length with hz|hz
   ·obtain rfl:out=[]:=List.eq_nil_of_length_eq_zero hz
    have HX:Hid (joinL (l.take (k+1))=[]++[r]):=by unfold Hid;rw[HJ.out];rfl
    obtain⟨A8,c8,rfl⟩:=hown.shape
    clear hz hol
    simp only[List.length_nil]at hown ⊢
    go_wp2_with fail
    go_quiet (fail)
    go_wp2_with (at_builtin;go_loud ((refine Qi rfl (.tmp 43) (.tmp 45) _ rfl eiRun (by decide) (by decide) (fun _ _ h=>h.one) rfl (((hown.alloc _).drewN _).alloc _) rfl (SlP.one (x:=r) HRE.out rfl _ (by rw[World.heap_drewN,World.size_alloc])) HL.out (by rw[World.size_alloc,World.heap_drewN,World.size_alloc];omega) ?_);intro v1 w1 hown1 hb1 _;have hb2:=(((Xr ((Below.refl w.heap.size wr).alloc hsz _) _).alloc (by rw[World.heap_drewN,World.size_alloc];omega) _).trans hb1)))
    go_roundw
    case rel=>exact⟨k+1,by omega,by go_num,by rw[HX.out];exact hown1,hb.trans hb2⟩
    case measure=>simp[intOf];omega
   ·obtain⟨q,hq⟩:∃ q,out[out.length-1]?=some q:=⟨_,List.getElem?_eq_getElem (by omega)⟩
    have hqo:=hjo q (List.mem_of_getElem? hq)
    obtain⟨g,cap,rfl,hg1,hg2,c0,c1,hfz,_⟩:=hown.setRun hq (z:=max q.2 r.2) ⟨by omega,by omega⟩
    have hmx:max q.2 r.2=if q.2<r.2 then r.2 else q.2:=by split<;>omega
    have hset:∀ n,OwnP (((wr.alloc (.cells #[.int .i64 r.1,.int .i64 r.2] 167)).drewN n).setCell ⟨g,(out.length-1)*2+1,none⟩ (.int .i64 (if q.2<r.2 then r.2 else q.2))) w.heap.size 167 2 RuE (.slice (some ⟨g,0,none⟩) out.length cap) (out.set (out.length-1) (q.1,max q.2 r.2)):=fun n=>by
     rw[←hmx]
     obtain⟨g',cap',e,_,_,_,_,_,h⟩:=((hown.alloc (.cells #[.int .i64 r.1,.int .i64 r.2] 167)).drewN n).setRun hq (z:=max q.2 r.2) ⟨by omega,by omega⟩
     cases e;exact h
    have hfz1:=hfz ((out.length-1)*2+1)
    have HJS:Hid (joinS out r=if r.1<=q.2+1 then out.set (out.length-1) (q.1,max q.2 r.2) else out++[r]):=by
     unfold Hid joinS;rw[List.getLast?_eq_getElem?,hq]
    have HMX:=hid hmx
    have HS2:Hid (∀ n,OwnP (((wr.alloc (.cells #[.int .i64 r.1,.int .i64 r.2] 167)).drewN n).setCell ⟨g,(out.length-1)*2+1,none⟩ (.int .i64 (if q.2<r.2 then r.2 else q.2))) w.heap.size 167 2 RuE (.slice (some ⟨g,0,none⟩) out.length cap) (out.set (out.length-1) (q.1,if q.2<r.2 then r.2 else q.2))):=fun n=>by
     have h1:=hset n
     rw[hmx]at h1;exact h1
    clear hq hfz hjo hmx
    have h1l:(1:Int)<=(out.length:Int):=by omega
    have h2l:(out.length:Int)-1<(out.length:Int):=by omega
    have h0':decide (0<out.length)=true:=by simp;omega
    have h0'':decide ((0:Int)<(out.length:Int))=true:=by simp;omega
    have hwq:IntKind.i64.wrap (q.2+1)=q.2+1:=IntWalk.i64_in _ (by omega)
    have hwk:IntKind.i64.wrap ((out.length:Int)-1)=(out.length:Int)-1:=IntWalk.i64_in _ (by omega)
    rcases t5:decide (r.1<=q.2+1)
    ·have HX:Hid (joinL (l.take (k+1))=out++[r]):=by unfold Hid;rw[HJ.out,HJS.out,if_neg (of_decide_eq_false t5)]
     clear hset HJS HJ
     go_wp2_with fail
     go_quiet (fail)
     go_wp2_with (at_builtin;go_loud ((refine Qi rfl (.tmp 43) (.tmp 45) _ rfl eiRun (by decide) (by decide) (fun _ _ h=>h.one) rfl (((hown.alloc _).drewN _).alloc _) rfl (SlP.one (x:=r) HRE.out rfl _ (by rw[World.heap_drewN,World.size_alloc])) HL.out (by rw[World.size_alloc,World.heap_drewN,World.size_alloc];omega) ?_);intro v1 w1 hown1 hb1 _;have hb2:=(((Xr ((Below.refl w.heap.size wr).alloc hsz _) _).alloc (by rw[World.heap_drewN,World.size_alloc];omega) _).trans hb1)))
     go_roundw
     case rel=>exact⟨k+1,by omega,by go_num,by rw[HX.out];exact hown1,hb.trans hb2⟩
     case measure=>simp[intOf];omega
    ·have HX:Hid (joinL (l.take (k+1))=out.set (out.length-1) (q.1,max q.2 r.2)):=by unfold Hid;rw[HJ.out,HJS.out,if_pos (of_decide_eq_true t5)]
     have HS:=hid hset
     clear hset HJS HJ
     go_wp2_with fail
     go_quiet (fail)
     go_wp2_with fail
     go_region
     all_goals
      go_wp2_with fail
      go_roundw
      case rel=>exact⟨k+1,by omega,by go_num,by rw[HX.out];first|exact HS.out _|exact HS2.out _|(rw[HMX.out];exact HS.out _)|(rw[HMX.out];exact HS2.out _),hb.trans ((Xr ((Below.refl w.heap.size wr).alloc hsz _) _).setCell (by exact hg1) _)⟩
      case measure=>simp[intOf];omega
  ·obtain rfl:k=l.length:=by omega
   rw[List.take_of_length_le (Nat.le_refl _)]at hown
   go_wp2_with fail
   go_ret
   exact⟨_,rfl,hown,hb⟩
def idxI {α:Type}(p:α->Bool)(l:List α):Int:=match l.findIdx? p with|some i=>(i:Int)|none=>-1
theorem Xh {α:Type}{p:α->Bool}{l:List α}{k:Nat}{x:α}(h:∀ (j:Nat) y,j<k->l[j]?=some y->p y=false)(hx:l[k]?=some x)(hp:p x=true):idxI p l=(k:Int):=by
 have hlt:=(List.getElem?_eq_some_iff.1 hx).1
 have:l.findIdx? p=some k:=by
  rw[List.findIdx?_eq_some_iff_getElem]
  refine⟨hlt,by rw[(List.getElem?_eq_some_iff.1 hx).2];exact hp,fun j hj=>?_⟩
  rw[h j _ hj (List.getElem?_eq_getElem (by omega))];simp
 unfold idxI;rw[this]
theorem Yq {α:Type}{p:α->Bool}{l:List α}(h:∀ (j:Nat) y,j<l.length->l[j]?=some y->p y=false):idxI p l=-1:=by
 have:l.findIdx? p=none:=by
  rw[List.findIdx?_eq_none_iff]
  intro x hx
  obtain⟨j,hj⟩:=List.getElem?_of_mem hx
  exact h j x (List.getElem?_eq_some_iff.1 hj).1 hj
 unfold idxI;rw[this]
theorem JL {α:Type}(p:α->Bool)(l:List α):decide (0<=idxI p l)=l.any p:=by
 unfold idxI
 cases h:l.findIdx? p with
 |none=>
  rw[List.findIdx?_eq_none_iff]at h
  rw[Bool.eq_iff_iff]
  simp[List.any_eq_true]
  exact h
 |some i=>
  rw[List.findIdx?_eq_some_iff_getElem]at h
  obtain⟨hlt,hp,_⟩:=h
  have:l.any p=true:=List.any_eq_true.2 ⟨l[i],List.getElem_mem hlt,hp⟩
  rw[this];simp
theorem K9 {α:Type}(p:α->Bool)(l:List α):-1<=idxI p l/\idxI p l<l.length+1:=by
 unfold idxI
 cases h:l.findIdx? p with
 |none=>simp;omega
 |some i=>
  rw[List.findIdx?_eq_some_iff_getElem]at h
  obtain⟨hlt,_⟩:=h
  simp;omega
def Jl (g:Nat)(lb:Array Value)(p:Int×Int->Bool)(w:World):Prop:=
 (∀ args W,(callFunc g args).run Tryz.prog W=.ok (.enter g args) W) /\
 ∀ (x:Int×Int) (W:World),Below w.heap.size w W->Calls Tryz.prog g (#[.agg #[.int .i64 x.1,.int .i64 x.2]]++lb) W fun e w'=>e=.returned (.bool (p x))/\Below W.heap.size W w'
theorem Kr (p:Int×Int->Bool)(g:Nat)(lb:Array Value)(l:List (Int×Int))(v:Value)(w:World)(h:SlP w w.heap.size 2 RuE v l)(ht:Jl g lb p w) :
  Calls Tryz.prog 216 #[v,.func (.func g) #[] lb] w fun e w'=>e=.returned (.int .i64 (idxI p l))/\Below w.heap.size w w':=by
 obtain⟨A,n,rfl,b1,b2,b3⟩:=h
 obtain⟨eg,ht⟩:=ht
 unfold Big at b2
 go_enter Tryz.func216,Tryz.ntmps216
 go_wp2_with fail
 go_loopw [8] (fun i wr=>∃ k:Nat,k<=l.length/\i=.int .i64 k/\Hid (∀ (j:Nat) y,j<k->l[j]?=some y->p y=false)/\Below w.heap.size w wr) (fun i _=>l.length-(intOf i).toNat)
 case atStart=>exact⟨0,Nat.zero_le _,rfl,fun j y hj=>absurd hj (Nat.not_lt_zero _),Below.refl _ _⟩
 case round=>
  obtain⟨k,hk,rfl,hrel,hb⟩:=hrel
  have hsz:=hb.size
  by_cases hlt:k<l.length
  ·obtain⟨x,hx⟩:∃ x,l[k]?=some x:=⟨_,List.getElem?_eq_getElem hlt⟩
   obtain⟨b,off,rfl,hbB,hc⟩:=b3 (by rintro rfl;simp at hlt)
   obtain⟨cs,⟨rfl,hok⟩,_,hu⟩:=hc k _ hx
   have e0:wr.cell? ⟨b,off+k*2,none⟩=some (.int .i64 x.1):=(hb.cell hbB).trans (hu 0 _ rfl)
   have e1:wr.cell? ⟨b,off+k*2+1,none⟩=some (.int .i64 x.2):=(hb.cell hbB).trans (hu 1 _ rfl)
   have hcall:=ht x wr hb
   have HX:=hid hx
   clear hu hx hc b3 hok ht
   cases hq:p x
   ·have HQ:=hid hq
    rw[hq]at hcall
    clear hq
    go_wp2_with (go_at_fn g;refine hcall.mono ?_;rintro e w1 ⟨rfl,hb1⟩)
    go_roundw
    case rel=>
     refine⟨k+1,by omega,by go_num,fun j y hj hy=>?_,hb.trans (hb1.mono hsz)⟩
     by_cases hjk:j=k
     ·subst hjk;have h2:=HX.out;rw[hy]at h2;cases h2;exact HQ.out
     ·exact hrel.out j y (by omega) hy
    case measure=>simp[intOf];omega
   ·have HQ:=hid hq
    rw[hq]at hcall
    clear hq
    go_wp2_with (go_at_fn g;refine hcall.mono ?_;rintro e w1 ⟨rfl,hb1⟩)
    go_ret
    exact⟨QB (Xh hrel.out HX.out HQ.out).symm,hb.trans (hb1.mono hsz)⟩
  ·obtain rfl:k=l.length:=by omega
   go_wp2_with fail
   go_ret
   exact⟨QB (Yq hrel.out).symm,hb⟩
theorem Ks (p:Int×Int->Bool)(g:Nat)(lb:Array Value)(l:List (Int×Int))(v:Value)(w:World)(h:SlP w w.heap.size 2 RuE v l)(ht:Jl g lb p w) :
  Calls Tryz.prog 202 #[v,.func (.func g) #[] lb] w fun e w'=>e=.returned (.bool (l.any p))/\Below w.heap.size w w':=by
 have hbd:=K9 p l
 have HA:=hid (JL p l)
 obtain⟨A,n,rfl,b1,b2,b3⟩:=h
 unfold Big at b2
 go_enter Tryz.func202,Tryz.ntmps202
 go_wp2_with fail
 refine (Kr p g lb l _ w ⟨A,n,rfl,b1,by unfold Big;omega,b3⟩ ht).mono ?_
 rintro e w1 ⟨rfl,hb1⟩
 go_wp2_with fail
 go_ret
 exact⟨Qe HA.out,hb1⟩
theorem Kt (x:Int×Int)(n:Int)(B:Nat)(w:World)(hc:w.cell? ⟨B,0,none⟩=some (.int .i64 n))(hB:B<w.heap.size) :
  Calls Tryz.prog 203 #[.agg #[.int .i64 x.1,.int .i64 x.2],.pointer (some ⟨B,0,none⟩)] w fun e w'=>e=.returned (.bool (inR x n))/\Below w.heap.size w w':=by
 have hne:B≠w.heap.size:=by omega
 rcases t1:decide (x.1<=n)
 ·have HR:Hid (inR x n=false):=by unfold Hid inR;rw[t1];rfl
  go_enter Tryz.func203,Tryz.ntmps203
  go_wp2_with fail
  go_ret
  exact⟨Qe HR.out.symm,by go_grown⟩
 ·have HR:Hid (inR x n=decide (n<=x.2)):=by unfold Hid inR;rw[t1];rfl
  go_enter Tryz.func203,Tryz.ntmps203
  go_wp2_with fail
  go_ret
  exact⟨Qe HR.out.symm,by go_grown⟩
def sHas (l:List (Int×Int))(n:Int):Bool:=runsR none l&&hasL l n
theorem qQc (l:List (Int×Int))(n:Int)(v:Value)(w:World)(h:SlP w w.heap.size 2 RuE v l) :
  Calls Tryz.prog 169 #[v,.int .i64 n] w fun e w'=>e=.returned (.bool (sHas l n))/\Below w.heap.size w w':=by
 have hs:SlP (w.alloc (.cells #[.int .i64 n] 2)) (w.alloc (.cells #[.int .i64 n] 2)).heap.size 2 RuE v l:=SlP.imp h ((Below.refl _ w).alloc (Nat.le_refl _) _) (by simp) fun _ _ _ h=>h
 have HS:=hid hs
 clear hs h
 go_enter Tryz.func169,Tryz.ntmps169
 go_wp2_with fail
 refine (Za l v _ HS.out).mono ?_
 rintro e w1 ⟨rfl,hb1⟩
 have hs1:=hb1.size
 simp only[World.size_alloc]at hs1
 have hB:Below w.heap.size w w1:=((Below.refl _ w).alloc (Nat.le_refl _) _).trans (hb1.mono (by simp))
 have hc:w1.cell? ⟨w.heap.size,0,none⟩=some (.int .i64 n):=by rw[hb1.cell (p:=⟨w.heap.size,0,none⟩) (by simp)];simp
 have HT:Hid (Jl 203 #[.pointer (some ⟨w.heap.size,0,none⟩)] (fun r=>inR r n) w1):=
  ⟨enters_of Tryz.func203 (by kernel_rfl) rfl,fun x W hW=>Kt x n w.heap.size W ((hW.cell (p:=⟨w.heap.size,0,none⟩) (by show w.heap.size<_;omega)).trans hc) (by have:=hW.size;omega)⟩
 have hs2:SlP w1 w1.heap.size 2 RuE v l:=SlP.imp HS.out hb1 (by simpa using hs1) fun _ _ _ h=>h
 have HS2:=hid hs2
 clear hs2
 cases hr:runsR none l
 ·have HR:Hid (sHas l n=false):=by unfold Hid sHas;rw[hr];rfl
  clear hr
  go_wp2_with fail
  go_ret
  exact⟨Qe HR.out.symm,hB⟩
 ·have HR:Hid (sHas l n=l.any fun r=>inR r n):=by unfold Hid sHas;rw[hr];rfl
  clear hr
  go_wp2_with fail
  refine (Ks (fun r=>inR r n) _ _ l v w1 HS2.out HT.out).mono ?_
  rintro e w2 ⟨rfl,hb2⟩
  go_wp2_with fail
  go_ret
  exact⟨Qe HR.out.symm,hB.trans (hb2.mono (by omega))⟩
def cHas (c:List Sp)(d:Dt):Bool:=Qk c&&(d.right&&sHas (partL c d.dc) d.n)
theorem Yh (c:List Sp)(d:Dt)(vc:Value)(w:World)(h:SlP w w.heap.size 3 SpE vc c)(hN:c.length<=900000) :
  Calls Tryz.prog 137 #[vc,.agg #[.int .i64 d.dc,.int .i64 d.n]] w fun e w'=>e=.returned (.bool (cHas c d))/\Below w.heap.size w w':=by
 have HC:Hid (∀ w',Below w.heap.size w w'->SlP w' w'.heap.size 3 SpE vc c):=fun w' hb=>h.imp hb hb.size (fun _ _ _ h=>h)
 obtain⟨A,n,rfl,_,_,_⟩:=h
 obtain⟨dc,num⟩:=d
 go_enter Tryz.func137,Tryz.ntmps137
 go_wp2_with fail
 refine (ZG c _ _ (HC.out _ ((Below.refl _ w).alloc (Nat.le_refl _) _)) hN).mono ?_
 rintro e w1 ⟨vs,rfl,hsl,hb1⟩
 have hs1:=hb1.size
 simp only[World.size_alloc]at hs1
 have hB1:Below w.heap.size w w1:=((Below.refl _ w).alloc (Nat.le_refl _) _).trans (hb1.mono (by simp))
 have b0:w1.cell? ⟨w.heap.size,0,none⟩=some (.int .i64 dc):=by rw[hb1.cell (p:=⟨w.heap.size,0,none⟩) (by simp)];simp
 have b1:w1.cell? ⟨w.heap.size,1,none⟩=some (.int .i64 num):=by rw[hb1.cell (p:=⟨w.heap.size,1,none⟩) (by simp)];simp
 obtain⟨A0,m0,g0,_⟩:=hsl 0 (by omega)
 obtain⟨A1,m1,g1,_⟩:=hsl 1 (by omega)
 obtain⟨A2,m2,g2,_⟩:=hsl 2 (by omega)
 obtain⟨A3,m3,g3,_⟩:=hsl 3 (by omega)
 have HSL:=hid (fun i (hi:i<4)=>(hsl i hi).slp (fun b hb=>hb.2) (Below.refl _ w1))
 clear hsl
 cases hap:Qk c
 ·have HR:Hid (cHas c ⟨dc,num⟩=false):=by unfold Hid cHas;rw[hap];rfl
  simp only[hap,Bool.false_eq_true,if_false]at g0 g1 g2 g3
  simp only[g0,g1,g2,g3]
  clear hap g0 g1 g2 g3
  go_upto_region 2 with (fail)
  refine Qb (w1.heap.size+1) (by kernel_rfl) (by kernel_rfl) ?_
  repeat (go_big_quiet_step (fail))
  refine wpQuiet_nil ?_
  intro wq hbq
  have hbw:Below w.heap.size w wq:=(hB1.alloc (by omega) _).trans (hbq.mono (by omega))
  go_wp2_with fail
  go_ret
  exact⟨Qe HR.out.symm,hbw⟩
 simp only[hap,if_true]at g0 g1 g2 g3
 simp only[g0,g1,g2,g3]
 cases hr:Dt.right ⟨dc,num⟩
 ·have HR:Hid (cHas c ⟨dc,num⟩=false):=by unfold Hid cHas;rw[hap,hr];rfl
  go_upto_region 2 with (fail)
  have f0:=Qf (B:=w1.heap.size+1) (w:=w1.alloc (.cells #[.slice A0 (partL c 0).length m0,.slice A1 (partL c 1).length m1,.slice A2 (partL c 2).length m2,.slice A3 (partL c 3).length m3] 162)) (b:=w.heap.size) (o:=0) (v:=.int .i64 dc) (by rw[World.cell?_alloc_lt _ _ _ (by show w.heap.size<_;omega)];exact b0) (by omega)
  have f1:=Qf (B:=w1.heap.size+1) (w:=w1.alloc (.cells #[.slice A0 (partL c 0).length m0,.slice A1 (partL c 1).length m1,.slice A2 (partL c 2).length m2,.slice A3 (partL c 3).length m3] 162)) (b:=w.heap.size) (o:=1) (v:=.int .i64 num) (by rw[World.cell?_alloc_lt _ _ _ (by show w.heap.size<_;omega)];exact b1) (by omega)
  have HRI:=hid hr
  clear hap hr g0 g1 g2 g3
  refine Qb (w1.heap.size+1) (by kernel_rfl) (by kernel_rfl) ?_
  repeat (go_big_quiet_step ((go_at_call 64;exact Calls.far_of (by simp) (HRI.out▸Qx ⟨dc,num⟩ _))))
  refine wpQuiet_nil ?_
  intro wq hbq
  have hbw:Below w.heap.size w wq:=(hB1.alloc (by omega) _).trans (hbq.mono (by omega))
  go_wp2_with fail
  go_ret
  exact⟨Qe HR.out.symm,hbw⟩
 ·have hbd:(0<=dc/\dc<4)/\1<=num/\num<=1099511627776:=by simpa[Dt.right,and_assoc] using hr
  obtain⟨dn,rfl⟩:∃ dn:Nat,dc=(dn:Int):=⟨dc.toNat,by omega⟩
  have hd4:dn<4:=by omega
  have hdi:(dn:Int)<4:=by omega
  have HR:Hid (cHas c ⟨dn,num⟩=sHas (partL c dn) num):=by unfold Hid cHas;rw[hap,hr];rfl
  obtain⟨Ad,md,gd,_⟩:=HSL.out dn hd4
  rw[if_pos hap]at gd
  have hcell:(w1.alloc (.cells #[.slice A0 (partL c 0).length m0,.slice A1 (partL c 1).length m1,.slice A2 (partL c 2).length m2,.slice A3 (partL c 3).length m3] 162)).cell? ⟨w1.heap.size,dn,none⟩=some (.slice Ad (partL c dn).length md):=by
   rw[Qa (Qg rfl),←gd]
   match dn,hd4 with
   |0,_=>rw[g0];rfl
   |1,_=>rw[g1];rfl
   |2,_=>rw[g2];rfl
   |3,_=>rw[g3];rfl
  have HS3:Hid (∀ w',Below w1.heap.size w1 w'->SlP w' w'.heap.size 2 RuE (.slice Ad (partL c dn).length md) (partL c dn)):=fun w' hb=>by
   have:=HSL.out dn hd4
   rw[if_pos hap,gd]at this
   exact this.imp hb hb.size fun _ _ _ h=>h
  go_upto_region 2 with (fail)
  have f0:=Qf (B:=w1.heap.size+1) (w:=w1.alloc (.cells #[.slice A0 (partL c 0).length m0,.slice A1 (partL c 1).length m1,.slice A2 (partL c 2).length m2,.slice A3 (partL c 3).length m3] 162)) (b:=w.heap.size) (o:=0) (v:=.int .i64 (dn:Int)) (by rw[World.cell?_alloc_lt _ _ _ (by show w.heap.size<_;omega)];exact b0) (by omega)
  have f1:=Qf (B:=w1.heap.size+1) (w:=w1.alloc (.cells #[.slice A0 (partL c 0).length m0,.slice A1 (partL c 1).length m1,.slice A2 (partL c 2).length m2,.slice A3 (partL c 3).length m3] 162)) (b:=w.heap.size) (o:=1) (v:=.int .i64 num) (by rw[World.cell?_alloc_lt _ _ _ (by show w.heap.size<_;omega)];exact b1) (by omega)
  have f2:=Qf (B:=w1.heap.size+1) hcell (by omega)
  have HRI:=hid hr
  clear hap hr g0 g1 g2 g3 gd hcell
  refine Qb (w1.heap.size+1) (by kernel_rfl) (by kernel_rfl) ?_
  repeat (go_big_quiet_step (first|(go_at_call 64;exact Calls.far_of (by simp) (HRI.out▸Qx ⟨dn,num⟩ _))|(go_at_call 169;exact Calls.far_all (by simp) (fun w' hb'=>qQc (partL c dn) num _ w' (HS3.out w' (((Below.refl _ w1).alloc (Nat.le_refl _) _).trans (hb'.mono (by omega))))))))
  refine wpQuiet_nil ?_
  intro wq hbq
  have hbw:Below w.heap.size w wq:=(hB1.alloc (by omega) _).trans (hbq.mono (by omega))
  go_wp2_with fail
  go_ret
  exact⟨Qe HR.out.symm,hbw⟩
def stayL (c:List Sp)(x:En):List En:=if cHas c x.dot then [] else [x]
def entL (ca cb:List Sp):List En->List En->List En
 |[],[]=>[]
 |x :: a,[]=>stayL cb x++entL ca cb a []
 |[],y :: b=>stayL ca y++entL ca cb [] b
 |x :: a,y :: b=>if x.dot.lt y.dot then stayL cb x++entL ca cb a (y :: b) else if y.dot.lt x.dot then stayL ca y++entL ca cb (x :: a) b else grtE x y :: entL ca cb a b
termination_by a b=>a.length+b.length
theorem ZH (c:List Sp)(x:En):(stayL c x).length<=1:=by unfold stayL;split<;>simp
theorem Zp (ca cb:List Sp):∀ (n:Nat) (a b:List En),a.length+b.length<=n->(entL ca cb a b).length<=a.length+b.length
 |n,[],[],_=>by rw[entL];simp
 |0,x :: a,_,h=>by simp at h
 |0,[],y :: b,h=>by simp at h
 |n+1,x :: a,[],h=>by
  have h1:=ZH cb x
  have h2:=Zp ca cb n a [] (by simp at h ⊢;omega)
  rw[entL,List.length_append];simp at h2 ⊢;omega
 |n+1,[],y :: b,h=>by
  have h1:=ZH ca y
  have h2:=Zp ca cb n [] b (by simp at h ⊢;omega)
  rw[entL,List.length_append];simp at h2 ⊢;omega
 |n+1,x :: a,y :: b,h=>by
  have h1:=ZH cb x
  have h2:=ZH ca y
  have h3:=Zp ca cb n a (y :: b) (by simp at h ⊢;omega)
  have h4:=Zp ca cb n (x :: a) b (by simp at h ⊢;omega)
  have h5:=Zp ca cb n a b (by simp at h ⊢;omega)
  rw[entL]
  split
  ·rw[List.length_append];simp at h3 ⊢;omega
  ·split
   ·rw[List.length_append];simp at h4 ⊢;omega
   ·simp at h5 ⊢;omega
theorem Vb (a b:Dt):decide (a.cmp b<0)=a.lt b:=by
 rw[←Bool.not_not (a.lt b),←K4,Bool.eq_iff_iff]
 simp
theorem XE (a b:List En)(ca cb:List Sp)(va vb vca vcb:Value)(w:World)(ha:SlP w w.heap.size 4 EnE va a)(hb:SlP w w.heap.size 4 EnE vb b)(hca:SlP w w.heap.size 3 SpE vca ca)(hcb:SlP w w.heap.size 3 SpE vcb cb)(hN:a.length+b.length<=900000)(hN1:ca.length<=900000)(hN2:cb.length<=900000) :
  Calls Tryz.prog 154 #[va,vb,vca,vcb] w (RetO w 80 4 (fun _=>EnE) (entL ca cb a b)):=by
 have HCA:Hid (∀ w',Below w.heap.size w w'->SlP w' w'.heap.size 3 SpE vca ca):=fun w' hb=>hca.imp hb hb.size fun _ _ _ h=>h
 have HCB:Hid (∀ w',Below w.heap.size w w'->SlP w' w'.heap.size 3 SpE vcb cb):=fun w' hb=>hcb.imp hb hb.size fun _ _ _ h=>h
 obtain⟨A1,m1,rfl,a1,a2,a3⟩:=ha
 obtain⟨A2,m2,rfl,b1,b2,b3⟩:=hb
 obtain⟨A3,m3,rfl,_,_,_⟩:=hca
 obtain⟨A4,m4,rfl,_,_,_⟩:=hcb
 unfold Big at a2 b2
 go_enter Tryz.func154,Tryz.ntmps154
 go_wp2_with fail
 go_loopw [9,10,11] (fun v i k wr=>∃ (out:List En) (p q:Nat),OwnP wr w.heap.size 80 4 EnE v out/\i=.int .i64 p/\k=.int .i64 q/\p<=a.length/\q<=b.length/\Hid (out++entL ca cb (a.drop p) (b.drop q)=entL ca cb a b)/\out.length<=p+q/\Below w.heap.size w wr) (fun _ i k _=>a.length-(intOf i).toNat+(b.length-(intOf k).toNat))
 case atStart=>exact⟨[],0,0,OwnP.nil,rfl,rfl,Nat.zero_le _,Nat.zero_le _,by unfold Hid;simp,by simp,Below.refl _ _⟩
 case round=>
  obtain⟨out,p,q,hown,rfl,rfl,hp,hq,hrel,hol,hBwr⟩:=hrel
  have hOwr:=hid hown
  clear hown
  by_cases hlp:p<a.length
  ·obtain⟨x,hx⟩:∃ x,a[p]?=some x:=⟨_,List.getElem?_eq_getElem hlp⟩
   obtain⟨ba,oa,rfl,hba,hca'⟩:=a3 (by rintro rfl;simp at hlp)
   obtain⟨cs,⟨rfl,hokx⟩,_,hu⟩:=hca' p _ hx
   have HXC:Hid (∀ w',Below w.heap.size w w'->w'.cell? ⟨ba,oa+p*4,none⟩=some (.int .i64 x.dc)/\w'.cell? ⟨ba,oa+p*4+1,none⟩=some (.int .i64 x.n)/\w'.cell? ⟨ba,oa+p*4+2,none⟩=some (.string x.s)/\w'.cell? ⟨ba,oa+p*4+3,none⟩=some (.int .i64 x.v)):=fun w' hb'=>
    ⟨(hb'.cell hba).trans (hu 0 _ rfl),(hb'.cell hba).trans (hu 1 _ rfl),(hb'.cell hba).trans (hu 2 _ rfl),(hb'.cell hba).trans (hu 3 _ rfl)⟩
   have HXE:Hid (EnE x [.int .i64 x.dc,.int .i64 x.n,.string x.s,.int .i64 x.v]):=⟨rfl,hokx⟩
   have HPX:=hid (Qz hx)
   have t1:decide ((p:Int)<(a.length:Int))=true:=by simp;omega
   have t2:((p:Int)==(a.length:Int))=false:=by simp;omega
   clear hu hca' hx a3 hokx
   by_cases hlq:q<b.length
   ·obtain⟨y,hy⟩:∃ y,b[q]?=some y:=⟨_,List.getElem?_eq_getElem hlq⟩
    obtain⟨bb,ob,rfl,hbb,hcb'⟩:=b3 (by rintro rfl;simp at hlq)
    obtain⟨cs,⟨rfl,hoky⟩,_,hu⟩:=hcb' q _ hy
    have HYC:Hid (∀ w',Below w.heap.size w w'->w'.cell? ⟨bb,ob+q*4,none⟩=some (.int .i64 y.dc)/\w'.cell? ⟨bb,ob+q*4+1,none⟩=some (.int .i64 y.n)/\w'.cell? ⟨bb,ob+q*4+2,none⟩=some (.string y.s)/\w'.cell? ⟨bb,ob+q*4+3,none⟩=some (.int .i64 y.v)):=fun w' hb'=>
     ⟨(hb'.cell hbb).trans (hu 0 _ rfl),(hb'.cell hbb).trans (hu 1 _ rfl),(hb'.cell hbb).trans (hu 2 _ rfl),(hb'.cell hbb).trans (hu 3 _ rfl)⟩
    have HYE:Hid (EnE y [.int .i64 y.dc,.int .i64 y.n,.string y.s,.int .i64 y.v]):=⟨rfl,hoky⟩
    have HPY:=hid (Qz hy)
    have t3:decide ((q:Int)<(b.length:Int))=true:=by simp;omega
    have t4:((q:Int)==(b.length:Int))=false:=by simp;omega
    clear hu hcb' hy b3 hoky
    obtain⟨x0,x1,_,_⟩:=HXC.out wr hBwr
    have fx0:=Qf (B:=wr.heap.size) x0 (by have:=hBwr.size;omega)
    have fx1:=Qf (B:=wr.heap.size) x1 (by have:=hBwr.size;omega)
    clear x0 x1
    obtain⟨y0,y1,_,_⟩:=HYC.out wr hBwr
    have fy0:=Qf (B:=wr.heap.size) y0 (by have:=hBwr.size;omega)
    have fy1:=Qf (B:=wr.heap.size) y1 (by have:=hBwr.size;omega)
    clear y0 y1
    have hE:entL ca cb (x :: a.drop (p+1)) (y :: b.drop (q+1))=if x.dot.lt y.dot then stayL cb x++entL ca cb (a.drop (p+1)) (y :: b.drop (q+1)) else if y.dot.lt x.dot then stayL ca y++entL ca cb (x :: a.drop (p+1)) (b.drop (q+1)) else grtE x y :: entL ca cb (a.drop (p+1)) (b.drop (q+1)):=by rw[entL]
    have c1:decide (Dt.cmp ⟨x.dc,x.n⟩ ⟨y.dc,y.n⟩<0)=x.dot.lt y.dot:=Vb _ _
    have c2:decide (Dt.cmp ⟨y.dc,y.n⟩ ⟨x.dc,x.n⟩<0)=y.dot.lt x.dot:=Vb _ _
    rcases hl1:x.dot.lt y.dot
    ·rw[hl1]at c1 hE
     rcases hl2:y.dot.lt x.dot
     ·rw[hl2]at c2 hE
      have HREL:Hid (out++(grtE x y :: entL ca cb (a.drop (p+1)) (b.drop (q+1)))=entL ca cb a b):=by
       have h1:=hrel.out;rw[HPX.out,HPY.out,hE]at h1;exact h1
      clear hE hl1 hl2 hrel
      go_upto_region 7 with (fail)
      refine Qb wr.heap.size (by kernel_rfl) (by kernel_rfl) ?_
      repeat (go_big_quiet_step ((go_at_call 176;exact Calls.far_of (Nat.le_refl _) (Qw ⟨_,_⟩ ⟨_,_⟩ _))))
      refine wpQuiet_nil ?_
      intro wp hbwp
      have hBwp:Below w.heap.size w wp:=hBwr.trans (hbwp.mono (by have:=hBwr.size;omega))
      have hOwp:=hid (hOwr.out.grow hbwp)
      clear hbwp
      go_wp2_with fail
      clear fx0 fx1 fy0 fy1
      obtain⟨x0,x1,_,_⟩:=HXC.out wp hBwp
      have fx0:=Qf (B:=wp.heap.size) x0 (by have:=hBwp.size;omega)
      have fx1:=Qf (B:=wp.heap.size) x1 (by have:=hBwp.size;omega)
      clear x0 x1
      obtain⟨y0,y1,_,_⟩:=HYC.out wp hBwp
      have fy0:=Qf (B:=wp.heap.size) y0 (by have:=hBwp.size;omega)
      have fy1:=Qf (B:=wp.heap.size) y1 (by have:=hBwp.size;omega)
      clear y0 y1
      go_upto_region 11 with (fail)
      refine Qb wp.heap.size (by kernel_rfl) (by kernel_rfl) ?_
      repeat (go_big_quiet_step ((go_at_call 176;exact Calls.far_of (Nat.le_refl _) (Qw ⟨_,_⟩ ⟨_,_⟩ _))))
      refine wpQuiet_nil ?_
      intro wq hbwq
      have hBwq:Below w.heap.size w wq:=hBwp.trans (hbwq.mono (by have:=hBwp.size;omega))
      have hOwq:=hid (hOwp.out.grow hbwq)
      clear hbwq
      go_wp2_with fail
      clear fx0 fx1 fy0 fy1
      obtain⟨z,hz⟩:∃ z,z=grtE x y:=⟨_,rfl⟩
      have HZQ:=hid hz
      have HZE:Hid (EnE z [.int .i64 z.dc,.int .i64 z.n,.string z.s,.int .i64 z.v]):=by
       rw[hz];unfold grtE;split
       ·exact HYE.out
       ·exact HXE.out
      have HXY:Hid (∀ w',Below w.heap.size w w'->w'.cell? ⟨ba,oa+p*4,none⟩=some (.int .i64 x.dc)/\w'.cell? ⟨ba,oa+p*4+1,none⟩=some (.int .i64 x.n)/\w'.cell? ⟨ba,oa+p*4+2,none⟩=some (.string x.s)/\w'.cell? ⟨ba,oa+p*4+3,none⟩=some (.int .i64 x.v)/\w'.cell? ⟨bb,ob+q*4,none⟩=some (.int .i64 y.dc)/\w'.cell? ⟨bb,ob+q*4+1,none⟩=some (.int .i64 y.n)/\w'.cell? ⟨bb,ob+q*4+2,none⟩=some (.string y.s)/\w'.cell? ⟨bb,ob+q*4+3,none⟩=some (.int .i64 y.v)):=fun w' hb'=>by
       obtain⟨x0,x1,x2,x3⟩:=HXC.out w' hb'
       obtain⟨y0,y1,y2,y3⟩:=HYC.out w' hb'
       exact⟨x0,x1,x2,x3,y0,y1,y2,y3⟩
      have HL:Hid (out.length + [z].length<=Few):=by unfold Hid Few;simp;omega
      have HRX:Hid (out++[z]++entL ca cb (a.drop (p+1)) (b.drop (q+1))=entL ca cb a b):=by
       unfold Hid;rw[←HREL.out,hz,List.append_assoc];rfl
      have hsq:=hBwq.size
      obtain⟨x0,x1,x2,x3⟩:=HXC.out wq hBwq
      obtain⟨y0,y1,y2,y3⟩:=HYC.out wq hBwq
      clear hz HREL
      go_upto_region 4 with (fail)
      go_region_held3 (fun w'=>w'.cell? ⟨ba,oa+p*4,none⟩=some (.int .i64 x.dc)/\w'.cell? ⟨ba,oa+p*4+1,none⟩=some (.int .i64 x.n)/\w'.cell? ⟨ba,oa+p*4+2,none⟩=some (.string x.s)/\w'.cell? ⟨ba,oa+p*4+3,none⟩=some (.int .i64 x.v)/\w'.cell? ⟨bb,ob+q*4,none⟩=some (.int .i64 y.dc)/\w'.cell? ⟨bb,ob+q*4+1,none⟩=some (.int .i64 y.n)/\w'.cell? ⟨bb,ob+q*4+2,none⟩=some (.string y.s)/\w'.cell? ⟨bb,ob+q*4+3,none⟩=some (.int .i64 y.v))
       (first|go_keep|exact HXY.out _ hB2|exact HXY.out _ hB1)
       (first
           |(go_at_call 177;go_loud ((refine (Jk x y _).mono ?_);rw[←HZQ.out];rintro e w1 ⟨rfl,hb⟩;have hb1:Below wq.heap.size wq w1:=(Below.trans (by go_grown) (hb.mono (by simp)));have hB1:Below w.heap.size w w1:=hBwq.trans (hb1.mono hsq);have hown1:=hOwq.out.grow hb1))
           |(go_loud (refine Zm rfl (.tmp 22) (.tmp 32) _ rfl Zy (by decide) (by decide) (fun _ _ h=>h.one) rfl (hown1.alloc _) rfl (SlP.one (x:=z) HZE.out rfl _ rfl) HL.out (by rw[World.size_alloc];have:=hB1.size;omega) ?_);intro v2 w2 hown2 hb2 hg2;have hB2:Below w.heap.size w w2:=(hB1.alloc hB1.size _).trans hb2))
      all_goals
       go_wp2_with fail
       go_roundw
       case rel=>exact⟨out++[z],p+1,q+1,hown2,by go_num,by go_num,by omega,by omega,HRX.out,by simp;omega,hB2⟩
       case measure=>simp[intOf];omega
     ·rw[hl2]at c2 hE
      have HREL:Hid (out++(stayL ca y++entL ca cb (a.drop p) (b.drop (q+1)))=entL ca cb a b):=by
       have h1:=hrel.out;rw[HPX.out,HPY.out,hE]at h1;rw[HPX.out];exact h1
      clear hE hl1 hl2 hrel
      go_upto_region 7 with (fail)
      refine Qb wr.heap.size (by kernel_rfl) (by kernel_rfl) ?_
      repeat (go_big_quiet_step ((go_at_call 176;exact Calls.far_of (Nat.le_refl _) (Qw ⟨_,_⟩ ⟨_,_⟩ _))))
      refine wpQuiet_nil ?_
      intro wp hbwp
      have hBwp:Below w.heap.size w wp:=hBwr.trans (hbwp.mono (by have:=hBwr.size;omega))
      have hOwp:=hid (hOwr.out.grow hbwp)
      clear hbwp
      go_wp2_with fail
      clear fx0 fx1 fy0 fy1
      obtain⟨x0,x1,_,_⟩:=HXC.out wp hBwp
      have fx0:=Qf (B:=wp.heap.size) x0 (by have:=hBwp.size;omega)
      have fx1:=Qf (B:=wp.heap.size) x1 (by have:=hBwp.size;omega)
      clear x0 x1
      obtain⟨y0,y1,_,_⟩:=HYC.out wp hBwp
      have fy0:=Qf (B:=wp.heap.size) y0 (by have:=hBwp.size;omega)
      have fy1:=Qf (B:=wp.heap.size) y1 (by have:=hBwp.size;omega)
      clear y0 y1
      go_upto_region 11 with (fail)
      refine Qb wp.heap.size (by kernel_rfl) (by kernel_rfl) ?_
      repeat (go_big_quiet_step ((go_at_call 176;exact Calls.far_of (Nat.le_refl _) (Qw ⟨_,_⟩ ⟨_,_⟩ _))))
      refine wpQuiet_nil ?_
      intro wq hbwq
      have hBwq:Below w.heap.size w wq:=hBwp.trans (hbwq.mono (by have:=hBwp.size;omega))
      have hOwq:=hid (hOwp.out.grow hbwq)
      clear hbwq
      clear fx0 fx1 fy0 fy1
      obtain⟨y0,y1,y2,y3⟩:=HYC.out wq hBwq
      go_wp2_with fail
      refine (Yh ca ⟨y.dc,y.n⟩ _ _ (HCA.out _ hBwq) hN1).mono ?_
      rintro e w1 ⟨rfl,hb1⟩
      have hBw1:Below w.heap.size w w1:=hBwq.trans (hb1.mono (by have:=hBwq.size;omega))
      have hown1:=hOwq.out.grow hb1
      clear y0 y1 y2 y3 hb1
      obtain⟨y0,y1,y2,y3⟩:=HYC.out w1 hBw1
      cases hh:cHas ca ⟨y.dc,y.n⟩
      ·have HRX:Hid (out++[y]++entL ca cb (a.drop p) (b.drop (q+1))=entL ca cb a b):=by
        have h1:=HREL.out;rw[show stayL ca y=[y] by (unfold stayL;rw[show cHas ca y.dot=false from hh];rfl)]at h1
        unfold Hid;rw[←h1,List.append_assoc]
       have HL:Hid (out.length + [y].length<=Few):=by unfold Hid Few;simp;omega
       clear hh
       go_wp2_with (at_builtin;go_loud ((with_reducible refine Qi rfl (.tmp 107) (.tmp 112) _ rfl Zy (by decide) (by decide) (fun _ _ h=>h.one) rfl (hown1.alloc _) rfl (SlP.one (x:=y) HYE.out rfl _ rfl) HL.out (by rw[World.size_alloc];have:=hBw1.size;omega) ?_);intro v1 w2 hown2 hb2 _))
       go_roundw
       case rel=>exact⟨out++[y],p,q+1,hown2,rfl,by go_num,hp,by omega,HRX.out,by simp;omega,(hBw1.alloc hBw1.size _).trans hb2⟩
       case measure=>simp[intOf];omega
      ·have HRX:Hid (out++entL ca cb (a.drop p) (b.drop (q+1))=entL ca cb a b):=by
        have h1:=HREL.out;rw[show stayL ca y=[] by (unfold stayL;rw[show cHas ca y.dot=true from hh];rfl),List.nil_append]at h1
        exact h1
       clear hh
       go_wp2_with fail
       go_roundw
       case rel=>exact⟨out,p,q+1,hown1,rfl,by go_num,hp,by omega,HRX.out,by omega,hBw1⟩
       case measure=>simp[intOf];omega
    ·rw[hl1]at c1 hE
     have HREL:Hid (out++(stayL cb x++entL ca cb (a.drop (p+1)) (b.drop q))=entL ca cb a b):=by
      have h1:=hrel.out;rw[HPX.out,HPY.out,hE]at h1;rw[HPY.out];exact h1
     clear hE hl1 hrel c2
     go_upto_region 7 with (fail)
     refine Qb wr.heap.size (by kernel_rfl) (by kernel_rfl) ?_
     repeat (go_big_quiet_step ((go_at_call 176;exact Calls.far_of (Nat.le_refl _) (Qw ⟨_,_⟩ ⟨_,_⟩ _))))
     refine wpQuiet_nil ?_
     intro wp hbwp
     have hBwp:Below w.heap.size w wp:=hBwr.trans (hbwp.mono (by have:=hBwr.size;omega))
     have hOwp:=hid (hOwr.out.grow hbwp)
     clear hbwp
     clear fx0 fx1 fy0 fy1
     obtain⟨x0,x1,x2,x3⟩:=HXC.out wp hBwp
     go_wp2_with fail
     refine (Yh cb ⟨x.dc,x.n⟩ _ _ (HCB.out _ hBwp) hN2).mono ?_
     rintro e w1 ⟨rfl,hb1⟩
     have hBw1:Below w.heap.size w w1:=hBwp.trans (hb1.mono (by have:=hBwp.size;omega))
     have hown1:=hOwp.out.grow hb1
     clear x0 x1 x2 x3 hb1
     obtain⟨x0,x1,x2,x3⟩:=HXC.out w1 hBw1
     cases hh:cHas cb ⟨x.dc,x.n⟩
     ·have HRX:Hid (out++[x]++entL ca cb (a.drop (p+1)) (b.drop q)=entL ca cb a b):=by
       have h1:=HREL.out;rw[show stayL cb x=[x] by (unfold stayL;rw[show cHas cb x.dot=false from hh];rfl)]at h1
       unfold Hid;rw[←h1,List.append_assoc]
      have HL:Hid (out.length + [x].length<=Few):=by unfold Hid Few;simp;omega
      clear hh
      go_wp2_with (at_builtin;go_loud ((with_reducible refine Qi rfl (.tmp 71) (.tmp 76) _ rfl Zy (by decide) (by decide) (fun _ _ h=>h.one) rfl (hown1.alloc _) rfl (SlP.one (x:=x) HXE.out rfl _ rfl) HL.out (by rw[World.size_alloc];have:=hBw1.size;omega) ?_);intro v1 w2 hown2 hb2 _))
      go_roundw
      case rel=>exact⟨out++[x],p+1,q,hown2,by go_num,rfl,by omega,hq,HRX.out,by simp;omega,(hBw1.alloc hBw1.size _).trans hb2⟩
      case measure=>simp[intOf];omega
     ·have HRX:Hid (out++entL ca cb (a.drop (p+1)) (b.drop q)=entL ca cb a b):=by
       have h1:=HREL.out;rw[show stayL cb x=[] by (unfold stayL;rw[show cHas cb x.dot=true from hh];rfl),List.nil_append]at h1
       exact h1
      clear hh
      go_wp2_with fail
      go_roundw
      case rel=>exact⟨out,p+1,q,hown1,by go_num,rfl,by omega,hq,HRX.out,by omega,hBw1⟩
      case measure=>simp[intOf];omega
   ·have hqe:q=b.length:=by omega
    have HREL:Hid (out++(stayL cb x++entL ca cb (a.drop (p+1)) (b.drop q))=entL ca cb a b):=by
     have h1:=hrel.out;rw[HPX.out,hqe,List.drop_of_length_le (Nat.le_refl _),entL]at h1;rw[hqe,List.drop_of_length_le (Nat.le_refl _)];exact h1
    have t3:decide ((q:Int)<(b.length:Int))=false:=by simp;omega
    have t4:((q:Int)==(b.length:Int))=true:=by simp;omega
    clear hrel hqe b3
    go_upto_region 7 with (fail)
    refine Qb wr.heap.size (by kernel_rfl) (by kernel_rfl) ?_
    repeat (go_big_quiet_step ((go_at_call 176;exact Calls.far_of (Nat.le_refl _) (Qw ⟨_,_⟩ ⟨_,_⟩ _))))
    refine wpQuiet_nil ?_
    intro wp hbwp
    have hBwp:Below w.heap.size w wp:=hBwr.trans (hbwp.mono (by have:=hBwr.size;omega))
    have hOwp:=hid (hOwr.out.grow hbwp)
    clear hbwp
    obtain⟨x0,x1,x2,x3⟩:=HXC.out wp hBwp
    go_wp2_with fail
    refine (Yh cb ⟨x.dc,x.n⟩ _ _ (HCB.out _ hBwp) hN2).mono ?_
    rintro e w1 ⟨rfl,hb1⟩
    have hBw1:Below w.heap.size w w1:=hBwp.trans (hb1.mono (by have:=hBwp.size;omega))
    have hown1:=hOwp.out.grow hb1
    clear x0 x1 x2 x3 hb1
    obtain⟨x0,x1,x2,x3⟩:=HXC.out w1 hBw1
    cases hh:cHas cb ⟨x.dc,x.n⟩
    ·have HRX:Hid (out++[x]++entL ca cb (a.drop (p+1)) (b.drop q)=entL ca cb a b):=by
      have h1:=HREL.out;rw[show stayL cb x=[x] by (unfold stayL;rw[show cHas cb x.dot=false from hh];rfl)]at h1
      unfold Hid;rw[←h1,List.append_assoc]
     have HL:Hid (out.length + [x].length<=Few):=by unfold Hid Few;simp;omega
     clear hh
     go_wp2_with (at_builtin;go_loud ((with_reducible refine Qi rfl (.tmp 71) (.tmp 76) _ rfl Zy (by decide) (by decide) (fun _ _ h=>h.one) rfl (hown1.alloc _) rfl (SlP.one (x:=x) HXE.out rfl _ rfl) HL.out (by rw[World.size_alloc];have:=hBw1.size;omega) ?_);intro v1 w2 hown2 hb2 _))
     go_roundw
     case rel=>exact⟨out++[x],p+1,q,hown2,by go_num,rfl,by omega,hq,HRX.out,by simp;omega,(hBw1.alloc hBw1.size _).trans hb2⟩
     case measure=>simp[intOf];omega
    ·have HRX:Hid (out++entL ca cb (a.drop (p+1)) (b.drop q)=entL ca cb a b):=by
      have h1:=HREL.out;rw[show stayL cb x=[] by (unfold stayL;rw[show cHas cb x.dot=true from hh];rfl),List.nil_append]at h1
      exact h1
     clear hh
     go_wp2_with fail
     go_roundw
     case rel=>exact⟨out,p+1,q,hown1,by go_num,rfl,by omega,hq,HRX.out,by omega,hBw1⟩
     case measure=>simp[intOf];omega
  ·have hpe:p=a.length:=by omega
   have t1:decide ((p:Int)<(a.length:Int))=false:=by simp;omega
   have t2:((p:Int)==(a.length:Int))=true:=by simp;omega
   by_cases hlq:q<b.length
   ·obtain⟨y,hy⟩:∃ y,b[q]?=some y:=⟨_,List.getElem?_eq_getElem hlq⟩
    obtain⟨bb,ob,rfl,hbb,hcb'⟩:=b3 (by rintro rfl;simp at hlq)
    obtain⟨cs,⟨rfl,hoky⟩,_,hu⟩:=hcb' q _ hy
    have HYC:Hid (∀ w',Below w.heap.size w w'->w'.cell? ⟨bb,ob+q*4,none⟩=some (.int .i64 y.dc)/\w'.cell? ⟨bb,ob+q*4+1,none⟩=some (.int .i64 y.n)/\w'.cell? ⟨bb,ob+q*4+2,none⟩=some (.string y.s)/\w'.cell? ⟨bb,ob+q*4+3,none⟩=some (.int .i64 y.v)):=fun w' hb'=>
     ⟨(hb'.cell hbb).trans (hu 0 _ rfl),(hb'.cell hbb).trans (hu 1 _ rfl),(hb'.cell hbb).trans (hu 2 _ rfl),(hb'.cell hbb).trans (hu 3 _ rfl)⟩
    have HYE:Hid (EnE y [.int .i64 y.dc,.int .i64 y.n,.string y.s,.int .i64 y.v]):=⟨rfl,hoky⟩
    have HPY:=hid (Qz hy)
    have t3:decide ((q:Int)<(b.length:Int))=true:=by simp;omega
    have t4:((q:Int)==(b.length:Int))=false:=by simp;omega
    have HREL:Hid (out++(stayL ca y++entL ca cb (a.drop p) (b.drop (q+1)))=entL ca cb a b):=by
     have h1:=hrel.out;rw[HPY.out,hpe,List.drop_of_length_le (Nat.le_refl _),entL]at h1;rw[hpe,List.drop_of_length_le (Nat.le_refl _)];exact h1
    clear hu hcb' hy b3 a3 hoky hrel hpe
    go_upto_region 7 with (fail)
    refine Qb wr.heap.size (by kernel_rfl) (by kernel_rfl) ?_
    repeat (go_big_quiet_step ((go_at_call 176;exact Calls.far_of (Nat.le_refl _) (Qw ⟨_,_⟩ ⟨_,_⟩ _))))
    refine wpQuiet_nil ?_
    intro wp hbwp
    have hBwp:Below w.heap.size w wp:=hBwr.trans (hbwp.mono (by have:=hBwr.size;omega))
    have hOwp:=hid (hOwr.out.grow hbwp)
    clear hbwp
    go_wp2_with fail
    go_upto_region 11 with (fail)
    refine Qb wp.heap.size (by kernel_rfl) (by kernel_rfl) ?_
    repeat (go_big_quiet_step ((go_at_call 176;exact Calls.far_of (Nat.le_refl _) (Qw ⟨_,_⟩ ⟨_,_⟩ _))))
    refine wpQuiet_nil ?_
    intro wq hbwq
    have hBwq:Below w.heap.size w wq:=hBwp.trans (hbwq.mono (by have:=hBwp.size;omega))
    have hOwq:=hid (hOwp.out.grow hbwq)
    clear hbwq
    obtain⟨y0,y1,y2,y3⟩:=HYC.out wq hBwq
    go_wp2_with fail
    refine (Yh ca ⟨y.dc,y.n⟩ _ _ (HCA.out _ hBwq) hN1).mono ?_
    rintro e w1 ⟨rfl,hb1⟩
    have hBw1:Below w.heap.size w w1:=hBwq.trans (hb1.mono (by have:=hBwq.size;omega))
    have hown1:=hOwq.out.grow hb1
    clear y0 y1 y2 y3 hb1
    obtain⟨y0,y1,y2,y3⟩:=HYC.out w1 hBw1
    cases hh:cHas ca ⟨y.dc,y.n⟩
    ·have HRX:Hid (out++[y]++entL ca cb (a.drop p) (b.drop (q+1))=entL ca cb a b):=by
      have h1:=HREL.out;rw[show stayL ca y=[y] by (unfold stayL;rw[show cHas ca y.dot=false from hh];rfl)]at h1
      unfold Hid;rw[←h1,List.append_assoc]
     have HL:Hid (out.length + [y].length<=Few):=by unfold Hid Few;simp;omega
     clear hh
     go_wp2_with (at_builtin;go_loud ((with_reducible refine Qi rfl (.tmp 107) (.tmp 112) _ rfl Zy (by decide) (by decide) (fun _ _ h=>h.one) rfl (hown1.alloc _) rfl (SlP.one (x:=y) HYE.out rfl _ rfl) HL.out (by rw[World.size_alloc];have:=hBw1.size;omega) ?_);intro v1 w2 hown2 hb2 _))
     go_roundw
     case rel=>exact⟨out++[y],p,q+1,hown2,rfl,by go_num,hp,by omega,HRX.out,by simp;omega,(hBw1.alloc hBw1.size _).trans hb2⟩
     case measure=>simp[intOf];omega
    ·have HRX:Hid (out++entL ca cb (a.drop p) (b.drop (q+1))=entL ca cb a b):=by
      have h1:=HREL.out;rw[show stayL ca y=[] by (unfold stayL;rw[show cHas ca y.dot=true from hh];rfl),List.nil_append]at h1
      exact h1
     clear hh
     go_wp2_with fail
     go_roundw
     case rel=>exact⟨out,p,q+1,hown1,rfl,by go_num,hp,by omega,HRX.out,by omega,hBw1⟩
     case measure=>simp[intOf];omega
   ·have hqe:q=b.length:=by omega
    have t3:decide ((q:Int)<(b.length:Int))=false:=by simp;omega
    have HR:Hid (out=entL ca cb a b):=by
     have h1:=hrel.out;rw[hpe,hqe,List.drop_of_length_le (Nat.le_refl _),List.drop_of_length_le (Nat.le_refl _),entL,List.append_nil]at h1;exact h1
    clear hrel hpe hqe a3 b3
    go_wp2_with fail
    go_ret
    exact⟨_,rfl,by rw[←HR.out];exact hOwr.out,hBwr⟩
theorem YV (x s:ByteArray)(A A':Option Addr)(n c n' c':Nat)(w:World) :
  Calls Tryz.prog 180 #[.agg #[.string x,.slice A n c,.slice A' n' c'],.string s] w fun e w'=>e=.returned (.int .i64 (cmpS x s))/\Below w.heap.size w w':=by
 go_enter Tryz.func180,Tryz.ntmps180
 go_wp2_with fail
 refine (XC x s _).mono ?_
 rintro e w1 ⟨rfl,rfl⟩
 go_wp2_with fail
 go_ret
 exact⟨rfl,by go_grown⟩
theorem ZO:∀ args W,(callFunc 180 args).run Tryz.prog W=.ok (.enter 180 args) W:=enters_of Tryz.func180 (by kernel_rfl) rfl
theorem qZi (ks:List Kd)(s:ByteArray)(v:Value)(w:World)(h:SlP w w.heap.size 3 (KdE w w.heap.size) v ks)(hS:ks.Pairwise fun a b=>ltS a.1 b.1=true) :
  Calls Tryz.prog 179 #[v,.string s,.func (.func 180) #[] #[]] w fun e w'=>
   ((∃ (i:Nat) (t:Tr),e=.returned (.tuple #[.int .i64 i,.bool true])/\ks[i]?=some (s,t))∨(∃ i:Int,e=.returned (.tuple #[.int .i64 i,.bool false])/\∀ t,(s,t)∉ks))/\Below w.heap.size w w':=by
 obtain⟨A,n,rfl,b1,b2,b3⟩:=h
 unfold Big at b2
 go_enter Tryz.func179,Tryz.ntmps179
 go_wp2_with fail
 go_loopw [9,10] (fun a b wr=>∃ lo hi:Nat,lo<=hi/\hi<=ks.length/\a=.int .i64 lo/\b=.int .i64 hi/\Hid (∀ (j:Nat) y,j<lo->ks[j]?=some y->ltS y.1 s=true)/\Hid (∀ (j:Nat) y,hi<=j->ks[j]?=some y->ltS y.1 s=false)/\Below w.heap.size w wr) (fun a b _=>(intOf b).toNat-(intOf a).toNat)
 case atStart=>exact⟨0,ks.length,Nat.zero_le _,Nat.le_refl _,rfl,rfl,fun j y hj=>absurd hj (Nat.not_lt_zero _),fun j y hj hy=>by have:=(List.getElem?_eq_some_iff.1 hy).1;omega,Below.refl _ _⟩
 case round=>
  obtain⟨lo,hi,hlh,hhn,rfl,rfl,HLO,HHI,hb⟩:=hrel
  have hsz:=hb.size
  by_cases hlt:lo<hi
  ·obtain⟨m,hm,hm1,hm2⟩:∃ m:Nat,((lo:Int)+(hi:Int)) / 2=(m:Int)/\lo<=m/\m<hi:=⟨(lo+hi) / 2,by omega,by omega,by omega⟩
   obtain⟨x,hx⟩:∃ x,ks[m]?=some x:=⟨_,List.getElem?_eq_getElem (by omega)⟩
   obtain⟨b,off,rfl,hbB,hc⟩:=b3 (by rintro rfl;simp at hhn;omega)
   obtain⟨cs,⟨ve,vk,rfl,hok,hrd⟩,_,hu⟩:=hc m _ hx
   obtain⟨A3,n3,A4,n4,rfl,rfl⟩:=Ql hrd
   have e0:wr.cell? ⟨b,off+m*3,none⟩=some (.string x.1):=(hb.cell hbB).trans (hu 0 _ rfl)
   have e1:wr.cell? ⟨b,off+m*3+1,none⟩=some (.slice A3 x.2.es.length n3):=(hb.cell hbB).trans (hu 1 _ rfl)
   have e2:wr.cell? ⟨b,off+m*3+2,none⟩=some (.slice A4 x.2.ks.length n4):=(hb.cell hbB).trans (hu 2 _ rfl)
   have hcall:=YV x.1 s A3 A4 x.2.es.length n3 x.2.ks.length n4 wr
   have eg:=ZO
   have HX:=hid hx
   have HLT:Hid (∀ (j:Nat) y,j<m->ks[j]?=some y->ltS y.1 x.1=true):=fun j y hj hy=>by
    obtain⟨h1,h2⟩:=List.getElem?_eq_some_iff.1 hy
    obtain⟨h3,h4⟩:=List.getElem?_eq_some_iff.1 hx
    rw[List.pairwise_iff_getElem]at hS
    have:=hS j m h1 h3 hj
    rw[h2,h4]at this;exact this
   have HGT:Hid (∀ (j:Nat) y,m<j->ks[j]?=some y->ltS x.1 y.1=true):=fun j y hj hy=>by
    obtain⟨h1,h2⟩:=List.getElem?_eq_some_iff.1 hy
    obtain⟨h3,h4⟩:=List.getElem?_eq_some_iff.1 hx
    rw[List.pairwise_iff_getElem]at hS
    have:=hS m j h3 h1 hj
    rw[h2,h4]at this;exact this
   clear hu hc b3 hx hrd hS
   rcases hq:ltS x.1 s
   ·have HQ:=hid hq
    have hcv:decide (cmpS x.1 s<0)=false:=by
     unfold cmpS;rw[hq];simp only[Bool.false_eq_true,if_false];split<;>decide
    clear hq
    have HN:Hid (∀ (j:Nat) y,m<=j->ks[j]?=some y->ltS y.1 s=false):=fun j y hj hy=>by
     by_cases hjm:j=m
     ·subst hjm;have h2:=HX.out;rw[hy]at h2;cases h2;exact HQ.out
     ·cases hys:ltS y.1 s
      ·rfl
      ·have h3:=QM (HGT.out j y (by omega) hy) hys
       rw[HQ.out]at h3;cases h3
    go_wp2_with (go_at_fn 180;refine hcall.mono ?_;rintro e w1 ⟨rfl,hb1⟩)
    go_roundw
    case rel=>exact⟨lo,m,hm1,by omega,rfl,by go_num,HLO.out,HN.out,hb.trans (hb1.mono hsz)⟩
    case measure=>simp[intOf];omega
   ·have HQ:=hid hq
    have hcv:decide (cmpS x.1 s<0)=true:=by unfold cmpS;rw[hq,if_pos rfl];decide
    clear hq
    have HN:Hid (∀ (j:Nat) y,j<m+1->ks[j]?=some y->ltS y.1 s=true):=fun j y hj hy=>by
     by_cases hjm:j=m
     ·subst hjm;have h2:=HX.out;rw[hy]at h2;cases h2;exact HQ.out
     ·exact QM (HLT.out j y (by omega) hy) HQ.out
    go_wp2_with (go_at_fn 180;refine hcall.mono ?_;rintro e w1 ⟨rfl,hb1⟩)
    go_roundw
    case rel=>exact⟨m+1,hi,by omega,hhn,by go_num,rfl,HN.out,HHI.out,hb.trans (hb1.mono hsz)⟩
    case measure=>simp[intOf];omega
  ·obtain rfl:lo=hi:=by omega
   by_cases hn:lo<ks.length
   ·obtain⟨x,hx⟩:∃ x,ks[lo]?=some x:=⟨_,List.getElem?_eq_getElem hn⟩
    obtain⟨b,off,rfl,hbB,hc⟩:=b3 (by rintro rfl;simp at hn)
    obtain⟨cs,⟨ve,vk,rfl,hok,hrd⟩,_,hu⟩:=hc lo _ hx
    obtain⟨A3,n3,A4,n4,rfl,rfl⟩:=Ql hrd
    have e0:wr.cell? ⟨b,off+lo*3,none⟩=some (.string x.1):=(hb.cell hbB).trans (hu 0 _ rfl)
    have e1:wr.cell? ⟨b,off+lo*3+1,none⟩=some (.slice A3 x.2.es.length n3):=(hb.cell hbB).trans (hu 1 _ rfl)
    have e2:wr.cell? ⟨b,off+lo*3+2,none⟩=some (.slice A4 x.2.ks.length n4):=(hb.cell hbB).trans (hu 2 _ rfl)
    have hcall:=YV x.1 s A3 A4 x.2.es.length n3 x.2.ks.length n4 wr
    have eg:=ZO
    have h0:=HHI.out lo x (Nat.le_refl _) hx
    have HX:=hid hx
    have HGT:Hid (∀ (j:Nat) y,lo<j->ks[j]?=some y->ltS x.1 y.1=true):=fun j y hj hy=>by
     obtain⟨h1,h2⟩:=List.getElem?_eq_some_iff.1 hy
     obtain⟨h3,h4⟩:=List.getElem?_eq_some_iff.1 hx
     rw[List.pairwise_iff_getElem]at hS
     have:=hS lo j h3 h1 hj
     rw[h2,h4]at this;exact this
    have H0:=hid h0
    clear hu hc b3 hx hrd hS
    rcases hq:ltS s x.1
    ·have HE:Hid (x.1=s):=ZE h0 hq
     have hcv:(cmpS x.1 s==0)=true:=by unfold cmpS;rw[h0,hq];rfl
     clear h0 hq
     go_wp2_with (go_at_fn 180;refine hcall.mono ?_;rintro e w1 ⟨rfl,hb1⟩)
     go_ret2
     exact⟨.inl ⟨lo,x.2,rfl,by rw[HX.out,←HE.out]⟩,hb.trans (hb1.mono hsz)⟩
    ·have HQ:=hid hq
     have hcv:(cmpS x.1 s==0)=false:=by unfold cmpS;rw[h0,hq];rfl
     clear h0 hq
     go_wp2_with (go_at_fn 180;refine hcall.mono ?_;rintro e w1 ⟨rfl,hb1⟩)
     go_ret2
     refine⟨.inr ⟨lo,rfl,fun t ht=>?_⟩,hb.trans (hb1.mono hsz)⟩
     obtain⟨j,hj⟩:=List.getElem?_of_mem ht
     rcases Nat.lt_trichotomy j lo with h1|h1|h1
     ·have:=HLO.out j _ h1 hj;rw[QH]at this;cases this
     ·subst h1;have h2:=HX.out;rw[hj]at h2;cases h2;have:=HQ.out;rw[QH]at this;cases this
     ·have h2:=HGT.out j _ h1 hj;have h3:=H0.out;rw[h2]at h3;cases h3
   ·obtain rfl:lo=ks.length:=by omega
    clear b3 hS
    go_wp2_with fail
    go_ret2
    refine⟨.inr ⟨ks.length,rfl,fun t ht=>?_⟩,hb⟩
    obtain⟨j,hj⟩:=List.getElem?_of_mem ht
    have:=HLO.out j _ (List.getElem?_eq_some_iff.1 hj).1 hj;rw[QH]at this;cases this
def Vq (g:Nat)(lb:Array Value)(p:ByteArray->Bool)(w:World):Prop:=
 (∀ args W,(callFunc g args).run Tryz.prog W=.ok (.enter g args) W) /\
 ∀ (x:ByteArray) (A A':Option Addr) (n c n' c':Nat) (W:World),x.size<=Big->Below w.heap.size w W->Calls Tryz.prog g (#[.agg #[.string x,.slice A n c,.slice A' n' c']]++lb) W fun e w'=>e=.returned (.bool (p x))/\Below W.heap.size W w'
theorem Kw (p:ByteArray->Bool)(g:Nat)(lb:Array Value)(l:List Kd)(v:Value)(w:World)(h:SlP w w.heap.size 3 (KdE w w.heap.size) v l)(ht:Vq g lb p w) :
  Calls Tryz.prog 120 #[v,.func (.func g) #[] lb] w fun e w'=>e=.returned (.int .i64 (idxI (fun y=>p y.1) l))/\Below w.heap.size w w':=by
 obtain⟨A,n,rfl,b1,b2,b3⟩:=h
 obtain⟨eg,ht⟩:=ht
 unfold Big at b2
 go_enter Tryz.func120,Tryz.ntmps120
 go_wp2_with fail
 go_loopw [8] (fun i wr=>∃ k:Nat,k<=l.length/\i=.int .i64 k/\Hid (∀ (j:Nat) y,j<k->l[j]?=some y->(fun y=>p y.1) y=false)/\Below w.heap.size w wr) (fun i _=>l.length-(intOf i).toNat)
 case atStart=>exact⟨0,Nat.zero_le _,rfl,fun j y hj=>absurd hj (Nat.not_lt_zero _),Below.refl _ _⟩
 case round=>
  obtain⟨k,hk,rfl,hrel,hb⟩:=hrel
  have hsz:=hb.size
  by_cases hlt:k<l.length
  ·obtain⟨x,hx⟩:∃ x,l[k]?=some x:=⟨_,List.getElem?_eq_getElem hlt⟩
   obtain⟨b,off,rfl,hbB,hc⟩:=b3 (by rintro rfl;simp at hlt)
   obtain⟨cs,⟨ve,vk,rfl,hok,hrd⟩,_,hu⟩:=hc k _ hx
   obtain⟨A3,n3,A4,n4,rfl,rfl⟩:=Ql hrd
   have e0:wr.cell? ⟨b,off+k*3,none⟩=some (.string x.1):=(hb.cell hbB).trans (hu 0 _ rfl)
   have e1:wr.cell? ⟨b,off+k*3+1,none⟩=some (.slice A3 x.2.es.length n3):=(hb.cell hbB).trans (hu 1 _ rfl)
   have e2:wr.cell? ⟨b,off+k*3+2,none⟩=some (.slice A4 x.2.ks.length n4):=(hb.cell hbB).trans (hu 2 _ rfl)
   have hcall:=ht x.1 A3 A4 x.2.es.length n3 x.2.ks.length n4 wr hok hb
   have HX:=hid hx
   have hpx:(fun y=>p y.1) x=p x.1:=rfl
   clear hu hx hc b3 ht
   cases hq:p x.1
   ·have HQ:Hid ((fun y=>p y.1) x=false):=hpx.trans hq
    rw[hq]at hcall
    clear hq hpx
    go_wp2_with (go_at_fn g;refine hcall.mono ?_;rintro e w1 ⟨rfl,hb1⟩)
    go_roundw
    case rel=>
     refine⟨k+1,by omega,by go_num,fun j y hj hy=>?_,hb.trans (hb1.mono hsz)⟩
     by_cases hjk:j=k
     ·subst hjk;have h2:=HX.out;rw[hy]at h2;cases h2;exact HQ.out
     ·exact hrel.out j y (by omega) hy
    case measure=>simp[intOf];omega
   ·have HQ:Hid ((fun y=>p y.1) x=true):=hpx.trans hq
    rw[hq]at hcall
    clear hq hpx
    go_wp2_with (go_at_fn g;refine hcall.mono ?_;rintro e w1 ⟨rfl,hb1⟩)
    go_ret
    exact⟨QB (Xh hrel.out HX.out HQ.out).symm,hb.trans (hb1.mono hsz)⟩
  ·obtain rfl:k=l.length:=by omega
   go_wp2_with fail
   go_ret
   exact⟨QB (Yq hrel.out).symm,hb⟩
theorem Xp {t:Tr}{w:World}{B:Nat}{ve vk:Value}(h:t.rd w B ve vk):SlP w B 3 (KdE w B) vk t.ks:=by
 obtain⟨es,ks⟩:=t;exact (QC.1 h).2
def RetS (w:World)(t:Tr)(e:Ending)(w':World):Prop:=
 ∃ ve vk,e=.returned (.agg #[ve,vk])/\t.rd w w.heap.size ve vk/\Below w.heap.size w w'
theorem J3 (t:Tr)(s:ByteArray)(ve vk:Value)(w:World)(h:t.rd w w.heap.size ve vk)(ho:t.Ord) :
  Calls Tryz.prog 156 #[.agg #[ve,vk],.string s] w (RetS w (kidT t s)):=by
 have HD:=hid h
 have hS:t.ks.Pairwise fun a b=>ltS a.1 b.1=true:=by obtain⟨es,ks⟩:=t;exact (QX.1 ho).2.1
 have HO:=hid ho
 obtain⟨A3,n3,A4,n4,rfl,rfl⟩:=Ql h
 have hb0:Below w.heap.size w ((w.alloc (.cells #[.slice A3 t.es.length n3,.slice A4 t.ks.length n4] 25)).alloc (.cells #[.slice none 0 0,.slice none 0 0] 25)):=((Below.refl _ w).alloc (Nat.le_refl _) _).alloc (by simp) _
 have hkl:t.ks.length<=140737488355328:=by
  have h1:=HD.out;obtain⟨es,ks⟩:=t;obtain⟨_,_,_,_,h2,_⟩:=(QC.1 h1).2;exact h2
 clear h
 go_enter Tryz.func156,Tryz.ntmps156
 go_wp2_with fail
 refine (qZi t.ks s _ _ (Xp (Qj hb0 hb0.size t _ _ HD.out)) hS).mono ?_
 rintro e w1 ⟨he,hb1⟩
 have hs1:=hb1.size
 simp only[World.size_alloc]at hs1
 have hB1:Below w.heap.size w w1:=hb0.trans (hb1.mono (by simp;omega))
 have g2:=(hb1.block w.heap.size (by simp;omega)).trans ((Qh (by simp)).trans (Qg (o:=.cells #[.slice A3 t.es.length n3,.slice A4 t.ks.length n4] 25) rfl))
 have g4:=(hb1.block (w.heap.size+1) (by simp)).trans (Qg (w:=w.alloc (.cells #[.slice A3 t.es.length n3,.slice A4 t.ks.length n4] 25)) (by simp))
 have HG4:=hid g4
 have c0:=Qa (i:=0) g2
 have c1:=Qa (i:=1) g2
 obtain⟨k0,k1,z0,z1⟩:=bz2 g4
 try simp only[List.getElem?_toArray,List.getElem?_cons_zero,List.getElem?_cons_succ]at c0 c1 k0 k1
 clear g2 g4 hS hb1
 rcases he with⟨i,u,rfl,hi⟩|⟨i,rfl,hn⟩
 ·have hil:i<t.ks.length:=(List.getElem?_eq_some_iff.1 hi).1
  have hKT:kidT t s=u:=Xn HO.out (List.mem_of_getElem? hi)
  obtain⟨b',off',rfl,hbB',vAe,vne,vAk,vnk,HRV,q1,q2⟩:∃ b' off',A4=some ⟨b',off',none⟩/\b'<w.heap.size/\∃ vAe vne vAk vnk,Hid (u.rd w w.heap.size (.slice vAe u.es.length vne) (.slice vAk u.ks.length vnk))/\w1.cell? ⟨b',off'+i*3+1,none⟩=some (.slice vAe u.es.length vne)/\w1.cell? ⟨b',off'+i*3+2,none⟩=some (.slice vAk u.ks.length vnk):=by
   have h1:=HD.out
   obtain⟨es,ks⟩:=t
   obtain⟨Ak',ck',he,_,_,h3⟩:=(QC.1 h1).2
   cases he
   obtain⟨b',off',rfl,hbB',hc'⟩:=h3 (by rintro rfl;simp[Tr.ks]at hil)
   obtain⟨cs,⟨ve',vk',rfl,_,hrd'⟩,_,hu'⟩:=hc' i _ hi
   obtain⟨vAe,vne,vAk,vnk,rfl,rfl⟩:=Ql hrd'
   exact⟨b',off',rfl,hbB',vAe,vne,vAk,vnk,hrd',(hB1.cell (p:=⟨b',off'+i*3+1,none⟩) hbB').trans (hu' 1 _ rfl),(hB1.cell (p:=⟨b',off'+i*3+2,none⟩) hbB').trans (hu' 2 _ rfl)⟩
  have HKT:=hid hKT
  clear hi hKT
  go_wp2_with fail
  have hW0:=Qd (i:=1) (Qd (i:=0) HG4.out (.slice vAe u.es.length vne)) (.slice vAk u.ks.length vnk)
  have r0:=(Qa (i:=0) hW0).trans (show _=some (.slice vAe u.es.length vne) by simp)
  have r1:=(Qa (i:=1) hW0).trans (show _=some (.slice vAk u.ks.length vnk) by simp)
  refine bodyPost_ret (v:=.agg #[.slice vAe u.es.length vne,.slice vAk u.ks.length vnk]) (by simp[results,Tryz.results156,go_sem,r0,r1]) rfl ⟨_,_,rfl,(by rw[HKT.out];exact HRV.out),(hB1.setCell (by simp) _).setCell (by simp) _⟩
 ·have HKT:Hid (kidT t s=.mk [] []):=Yw hn
  go_wp2_with fail
  have hW0:=Qd (i:=1) (Qd (i:=0) HG4.out (.slice none 0 0)) (.slice none 0 0)
  have r0:=(Qa (i:=0) hW0).trans (show _=some (.slice none 0 0) by simp)
  have r1:=(Qa (i:=1) hW0).trans (show _=some (.slice none 0 0) by simp)
  refine bodyPost_ret (v:=.agg #[.slice none 0 0,.slice none 0 0]) (by simp[results,Tryz.results156,go_sem,r0,r1]) rfl ⟨_,_,rfl,(by rw[HKT.out];exact Xb),(hB1.setCell (by simp) _).setCell (by simp) _⟩
theorem J9:∀ (c:List Sp) (L:Int),c.Pairwise (fun a b=>a.dc<=b.dc)->(∀ s∈c,L<=s.dc/\s.dc<4)->dcsOk L c=true
 |[],_,_,_=>rfl
 |s :: c,L,hp,ha=>by
  rw[List.pairwise_cons]at hp
  rw[dcsOk,J9 c s.dc hp.2 (fun x hx=>⟨hp.1 x hx,(ha x (by simp[hx])).2⟩)]
  have:=ha s (by simp)
  simp[this]
theorem ZS (ls:Nat->List (Int×Int)):∀ k,∀ s∈Qv ls k,0<=s.dc/\s.dc<k
 |0,s,h=>by simp[Qv]at h
 |k+1,s,h=>by
  rw[QZ]at h
  rcases List.mem_append.1 h with h|h
  ·have:=ZS ls k s h;omega
  ·obtain⟨r,_,rfl⟩:=List.mem_map.1 h
   show 0<=(k:Int)/\(k:Int)<_
   omega
theorem XQ (ls:Nat->List (Int×Int)):∀ k,(Qv ls k).Pairwise fun a b=>a.dc<=b.dc
 |0=>by simp[Qv]
 |k+1=>by
  rw[QZ,List.pairwise_append]
  refine⟨XQ ls k,?_,fun a ha b hb=>?_⟩
  ·unfold Qr
   rw[List.pairwise_map]
   exact List.pairwise_of_forall fun _ _=>Int.le_refl _
  ·obtain⟨r,_,rfl⟩:=List.mem_map.1 hb
   have:=ZS ls k a ha
   show a.dc<=(k:Int)
   omega
theorem XR (a b:List Sp)(dc:Int):partL (a++b) dc=partL a dc++partL b dc:=by simp[partL]
theorem YF (l:List (Int×Int))(d dc:Int):partL (Qr d l) dc=if d=dc then l else []:=by
 unfold partL Qr
 rw[List.filter_map,List.map_map]
 by_cases e:d=dc
 ·rw[if_pos e]
  rw[List.filter_eq_self.2 (fun x _=>by simp[e])]
  exact List.map_id'' (fun x=>rfl) l
 ·rw[if_neg e,List.filter_eq_nil_iff.2 (fun x _=>by simp[e])];rfl
theorem Zf (ls:Nat->List (Int×Int)):∀ (k d:Nat),partL (Qv ls k) d=if d<k then ls d else []
 |0,d=>by simp[Qv,partL]
 |k+1,d=>by
  rw[QZ,XR,Zf ls k d,YF]
  by_cases e:d=k
  ·subst e;rw[if_neg (Nat.lt_irrefl _),if_pos rfl,if_pos (Nat.lt_succ_self _)];rfl
  ·rw[if_neg (show ¬(k:Int)=(d:Int) by omega),List.append_nil]
   by_cases h:d<k
   ·rw[if_pos h,if_pos (by omega)]
   ·rw[if_neg h,if_neg (by omega)]
theorem YG {ls:Nat->List (Int×Int)}(h:∀ i,i<4->runsR none (ls i)=true):Qk (Qv ls 4)=true:=by
 unfold Qk
 rw[J9 _ 0 (XQ ls 4) (fun s hs=>by have:=ZS ls 4 s hs;omega),Bool.true_and,List.all_eq_true]
 intro i hi
 have hi4:i<4:=List.mem_range.1 hi
 rw[Zf,if_pos hi4]
 exact h i hi4
theorem qQl {ls ms:Nat->List (Int×Int)}(h:∀ i,i<4->ls i=ms i):Qv ls 4=Qv ms 4:=by
 unfold Qv
 rw[List.flatMap_def,List.flatMap_def]
 congr 1
 apply List.map_congr_left
 intro i hi
 rw[h i (List.mem_range.1 hi)]
theorem YH (l:List Dt):ctxOf l=Qv (fun i=>ofL (numsL l i)) 4:=rfl
theorem Js {l:List Dt}(h:∀ d∈l,d.right=true)(dc:Int):∀ x∈numsL l dc,1<=x/\x<=1099511627776:=fun x hx=>by
 unfold numsL at hx
 obtain⟨d,hd,rfl⟩:=List.mem_map.1 hx
 have h1:=h d (List.mem_filter.1 hd).1
 simp[Dt.right]at h1
 omega
theorem Zg {l:List Dt}(h:∀ d∈l,d.right=true):Qk (ctxOf l)=true:=by
 rw[YH]
 exact YG fun i _=>(ZP (Js h i)).1
theorem KB (l:List Dt){d:Nat}(hd:d<4):partL (ctxOf l) d=ofL (numsL l d):=by
 rw[YH,Zf,if_pos hd]
theorem Y2 {l:List Dt}(h:∀ d∈l,d.right=true){d:Dt}(hd:d.right=true):hasC (ctxOf l) d=decide (d∈l):=by
 have hb:0<=d.dc/\d.dc<4:=by simp[Dt.right]at hd;omega
 obtain⟨n,hn⟩:∃ n:Nat,d.dc=(n:Int):=⟨d.dc.toNat,by omega⟩
 unfold hasC
 rw[hd,Bool.true_and,hn,KB l (by omega),Bool.eq_iff_iff,(ZP (Js h n)).2,decide_eq_true_eq]
 unfold numsL
 rw[List.mem_map]
 constructor
 ·rintro⟨x,hx,he⟩
  obtain⟨hx1,hx2⟩:=List.mem_filter.1 hx
  have:x=d:=by cases x;cases d;simp at *;exact⟨hx2.trans hn.symm,he⟩
  rw[←this];exact hx1
 ·intro hm
  exact⟨d,List.mem_filter.2 ⟨hm,by simp[hn]⟩,rfl⟩
theorem qQr {d:Dt}(h:d.right=true):(0<=d.dc/\d.dc<4)/\1<=d.n/\d.n<=1099511627776:=by simpa[Dt.right,and_assoc] using h
theorem YI (a b:List Sp)(how:Int):ctxBy a b how=Qv (fun i=>byL (partL a i) (partL b i) how) 4:=rfl
theorem Xs:∀ (l:List (Int×Int)) (p:Option Int),runsR p l=true->∀ r∈l,runOk r
 |x :: l,p,h,r,hr=>by
  rw[Qo]at h
  rcases List.mem_cons.1 hr with rfl|hr
  ·exact h.1
  ·exact Xs l _ h.2.2 r hr
theorem QT {c:List Sp}(h:Qk c=true){i:Nat}(hi:i<4):runsR none (partL c i)=true:=by
 unfold Qk at h
 rw[Bool.and_eq_true,List.all_eq_true]at h
 exact h.2 i (List.mem_range.2 hi)
theorem ZT:∀ (c:List Sp) (L:Int),dcsOk L c=true->∀ s∈c,L<=s.dc/\s.dc<4
 |s :: c,L,h,x,hx=>by
  rw[dcsOk,Bool.and_eq_true,Bool.and_eq_true,decide_eq_true_eq,decide_eq_true_eq]at h
  rcases List.mem_cons.1 hx with rfl|hx
  ·exact⟨h.1.1,h.1.2⟩
  ·have:=ZT c s.dc h.2 x hx;exact⟨by omega,this.2⟩
theorem XW:∀ (c:List Sp) (L:Nat),dcsOk (L:Int) c=true->∀ n,L+n=4->c=(List.range' L n).flatMap fun (dc:Nat)=>Qr (dc:Int) (partL c (dc:Int))
 |c,L,h,0,hn=>by
  cases c with
  |nil=>rfl
  |cons s c=>have:=ZT _ _ h s (by simp);omega
 |c,L,h,n+1,hn=>by
  rw[List.range'_succ,List.flatMap_cons]
  have key:∀ (c:List Sp) (L:Int),dcsOk L c=true->∃ c',c=Qr L (partL c L)++c'/\dcsOk (L+1) c'=true:=by
   intro c
   induction c with
   |nil=>intro L _;exact⟨[],by simp[partL,Qr],rfl⟩
   |cons s c ih=>
    intro L h
    rw[dcsOk,Bool.and_eq_true,Bool.and_eq_true,decide_eq_true_eq,decide_eq_true_eq]at h
    obtain⟨⟨h1,h2⟩,h3⟩:=h
    by_cases e:s.dc=L
    ·rw[e]at h3
     obtain⟨c',hc,hd⟩:=ih L h3
     refine⟨c',?_,hd⟩
     have hp:partL (s :: c) L=(s.fr,s.hi) :: partL c L:=by simp[partL,e]
     rw[hp]
     conv=>lhs;rw[hc]
     unfold Qr
     rw[List.map_cons,List.cons_append]
     congr 1
     cases s;simp at e;simp[e]
    ·refine⟨s :: c,?_,?_⟩
     ·have hp:partL (s :: c) L=[]:=by
       unfold partL
       rw[List.filter_eq_nil_iff.2,List.map_nil]
       intro x hx
       have:s.dc<=x.dc:=by
        rcases List.mem_cons.1 hx with rfl|hx
        ·exact Int.le_refl _
        ·exact (ZT c s.dc h3 x hx).1
       simp;omega
      rw[hp];rfl
     ·rw[dcsOk,h3];simp;omega
  obtain⟨c',hc,hd⟩:=key c L h
  have ih:=XW c' (L+1) (by exact_mod_cast hd) n (by omega)
  have hpc:∀ dc:Nat,L+1<=dc->partL c dc=partL c' dc:=fun dc hdc=>by
   rw[hc,XR,YF,if_neg (by omega)];rfl
  conv=>lhs;rw[hc,ih]
  congr 1
  rw[List.flatMap_def,List.flatMap_def]
  congr 1
  apply List.map_congr_left
  intro i hi
  rw[hpc i (by have:=List.mem_range'_1.1 hi;omega)]
theorem Y5 {c:List Sp}(h:Qk c=true):Qv (fun i=>partL c i) 4=c:=by
 unfold Qk at h
 rw[Bool.and_eq_true]at h
 have:=XW c 0 h.1 4 rfl
 unfold Qv
 rw[List.range_eq_range']
 exact this.symm
end Go.Proofs.YtbcoelggdikipaaGreat
