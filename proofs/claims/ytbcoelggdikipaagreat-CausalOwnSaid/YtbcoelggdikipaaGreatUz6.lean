/- What the laws need. No condition but those that each lemma states. -/
import Derived.Test.YtbcoelggdikipaaGreatUz4
import Derived.Test.YtbcoelggdikipaaGreatUz5
import Derived.Test.YtbcoelggdikipaaGreatUz2
import Derived.Test.YtbcoelggdikipaaGreatUz3
set_option maxRecDepth 100000
set_option maxHeartbeats 8000000
set_option linter.unusedSimpArgs false
namespace Go.Proofs.YtbcoelggdikipaaGreat
open Go.RowKit
def joinK (a b:Tr):List ByteArray:=cmpL (srtL ((a.ks++b.ks).map (·.1)))
def joinF (f:ByteArray->Tr)(k:ByteArray):List Kd:=if (f k).empty then [] else [(k,f k)]
def joinT:Nat->List Sp->List Sp->Tr->Tr->Tr
 |0,_,_,_,_=>.mk [] []
 |n+1,ca,cb,a,b=>.mk (entL ca cb a.es b.es) ((joinK a b).flatMap (joinF fun k=>joinT n ca cb (kidT a k) (kidT b k)))
theorem Vt (f:ByteArray->Tr)(k:ByteArray):(joinF f k).length<=1:=by unfold joinF;split<;>simp
theorem Q9 (f:ByteArray->Tr):∀ l:List ByteArray,(l.flatMap (joinF f)).length<=l.length
 |[]=>by simp
 |k :: l=>by
  have h1:=Vt f k
  have h2:=Q9 f l
  rw[List.flatMap_cons,List.length_append,List.length_cons];omega
theorem Xa {l:List ByteArray}{k:Nat}{x:ByteArray}(h:l[k]?=some x)(f:ByteArray->Tr):(l.take (k+1)).flatMap (joinF f)=(l.take k).flatMap (joinF f)++joinF f x:=by
 rw[List.take_add_one,h,List.flatMap_append];simp
theorem qQd (l:List ByteArray):(cmpL l).length<=l.length:=by
 unfold cmpL
 have:=Lib.compact_length_le (l.map toBy)
 rw[List.length_map]at this ⊢;exact this
theorem qQe {l:List ByteArray}{x:ByteArray}(h:x∈cmpL l):x∈l:=by
 unfold cmpL at h
 obtain⟨y,hy,rfl⟩:=List.mem_map.1 h
 unfold Lib.compact Lib.compactUpTo at hy
 obtain⟨j,hj,rfl⟩:=List.mem_map.1 hy
 have hj':j<(l.map toBy).length:=List.mem_range.1 (List.mem_filter.1 hj).1
 rw[getElem!_pos _ j (by simpa using hj')]
 simp[Vl]
theorem qQf {l:List ByteArray}{x:ByteArray}(h:x∈srtL l):x∈l:=by
 unfold srtL at h
 obtain⟨y,hy,rfl⟩:=List.mem_map.1 h
 obtain⟨z,hz,rfl⟩:=List.mem_map.1 ((List.mergeSort_perm _ _).subset hy)
 exact hz
theorem Vu {a b:Tr}{x:ByteArray}(h:x∈joinK a b):∃ t,(x,t)∈a.ks∨(x,t)∈b.ks:=by
 have:=qQf (qQe h)
 obtain⟨⟨k,t⟩,hm,rfl⟩:=List.mem_map.1 this
 rcases List.mem_append.1 hm with h|h
 ·exact⟨t,.inl h⟩
 ·exact⟨t,.inr h⟩
theorem X2 (a b:Tr):(joinK a b).length<=a.ks.length+b.ks.length:=by
 unfold joinK
 have h1:=qQd (srtL ((a.ks++b.ks).map (·.1)))
 rw[Xx,List.length_map,List.length_append]at h1
 exact h1
theorem XA (t:Tr):1<=t.dep:=by obtain⟨es,ks⟩:=t;rw[Tr.dep];omega
theorem Ya {t u:Tr}{k:ByteArray}(h:(k,u)∈t.ks):u.dep+1<=t.dep:=by
 obtain⟨es,ks⟩:=t
 rw[Tr.dep];have:=Vm (show (k,u)∈ks from h);omega
theorem Yq {t:Tr}(ho:t.Ord){n:Nat}(h:t.dep<=n+1)(hn:1<=n)(k:ByteArray):(kidT t k).dep<=n:=by
 by_cases hm:∃ u,(k,u)∈t.ks
 ·obtain⟨u,hm⟩:=hm
  rw[Xv ho hm];have:=Ya hm;omega
 ·rw[Yy fun u hu=>hm ⟨u,hu⟩];simp[Tr.dep,Tr.depL];omega
theorem X3 {a b:Tr}{n:Nat}(ha:a.dep<=n+1)(hb:b.dep<=n+1){x:ByteArray}(h:x∈joinK a b):1<=n:=by
 obtain⟨t,h|h⟩:=Vu h
 ·have:=Ya h;have:=XA t;omega
 ·have:=Ya h;have:=XA t;omega
theorem es_sz (t:Tr):t.es.length+t.ks.length<=t.sz:=by
 obtain⟨es,ks⟩:=t
 have:=ZA ks
 rw[Tr.sz];simp only[Tr.es,Tr.ks];omega
theorem J8 {t:Tr}{w:World}{B:Nat}{ve vk:Value}(h:t.rd w B ve vk):SlP w B 4 EnE ve t.es:=by
 obtain⟨es,ks⟩:=t;exact (QB.1 h).1
theorem QI {w w':World}{o:Obj}(h:Below (w.alloc o).heap.size (w.alloc o) w'):Below w.heap.size w w':=((Below.refl _ w).alloc (Nat.le_refl _) o).trans (h.mono (by simp))
theorem qZg {wr w7:World}{n N:Nat}{x y u v:Value}{e:TypeId}{t:Tr}(hbox:w7.heap[n]?=some (.cells #[x,y] e (0,0)))(hn:wr.heap.size<=n)(hb:Below wr.heap.size wr w7)(hr:t.rda w7 (fun b=>N<=b/\b<w7.heap.size) u v)(hnN:n<N) :
  ∀ W,Below ((w7.setCell ⟨n,0,none⟩ u).setCell ⟨n,1,none⟩ v).heap.size ((w7.setCell ⟨n,0,none⟩ u).setCell ⟨n,1,none⟩ v) W->W.cell? ⟨n,0,none⟩=some u/\W.cell? ⟨n,1,none⟩=some v/\Below wr.heap.size wr W/\t.rda W (fun b=>wr.heap.size<=b/\b<W.heap.size) u v:=by
 intro W hW
 have hsz:((w7.setCell ⟨n,0,none⟩ u).setCell ⟨n,1,none⟩ v).heap.size=w7.heap.size:=by simp[World.setCell]
 rw[hsz]at hW
 have hlt:=lt_of_block hbox
 have hg:W.heap[n]?=some (.cells #[u,v] e (0,0)):=(hW.block n hlt).trans (by simpa using Qe (i:=1) (Qe (i:=0) hbox u) v)
 have hs:=hW.size
 rw[hsz]at hs
 refine⟨Qa (i:=0) hg,Qa (i:=1) hg,((hb.setCell hn _).setCell hn _).trans (hW.mono hb.size),Zi (fun b hb'=>?_) (fun b hb'=>⟨by omega,by omega⟩) _ _ _ hr⟩
 rw[hW.block b hb'.2]
 exact (Below.heap_setCell _ _ _ _ (by simp;omega)).trans (Below.heap_setCell _ _ _ _ (by simp;omega))
theorem qZh {wr w7:World}{N:Nat}{u v:Value}{e:TypeId}{t:Tr}(hb:Below wr.heap.size wr w7)(hr:t.rda w7 (fun b=>N<=b/\b<w7.heap.size) u v)(hN:wr.heap.size<=N) :
  ∀ W,Below (w7.alloc (.cells #[u,v] e)).heap.size (w7.alloc (.cells #[u,v] e)) W->W.cell? ⟨w7.heap.size,0,none⟩=some u/\W.cell? ⟨w7.heap.size,1,none⟩=some v/\Below wr.heap.size wr W/\t.rda W (fun b=>wr.heap.size<=b/\b<W.heap.size) u v:=by
 intro W hW
 have hg:W.heap[w7.heap.size]?=some (.cells #[u,v] e (0,0)):=(hW.block _ (by simp)).trans (Qf rfl)
 have hs:=hW.size
 rw[World.size_alloc]at hs
 refine⟨Qa (i:=0) hg,Qa (i:=1) hg,(hb.alloc hb.size _).trans (hW.mono (by have:=hb.size;simp;omega)),Zi (fun b hb'=>?_) (fun b hb'=>⟨by omega,by omega⟩) _ _ _ hr⟩
 rw[hW.block b (by rw[World.size_alloc];omega)]
 exact Qh hb'.2
theorem Ky (ca cb:List Sp)(hN1:ca.length<=900000)(hN2:cb.length<=900000):∀ (n:Nat) (a b:Tr) (va ka vb kb vca vcb:Value) (w:World),a.rd w w.heap.size va ka->b.rd w w.heap.size vb kb->SlP w w.heap.size 3 SpE vca ca->SlP w w.heap.size 3 SpE vcb cb->a.Ord->b.Ord->a.dep<=n->b.dep<=n->a.sz<=100000->b.sz<=100000 ->
  Calls Tryz.prog 111 #[.agg #[va,ka],.agg #[vb,kb],vca,vcb] w (RetT w (joinT n ca cb a b)):=by
 intro n
 induction n with
 |zero=>intro a b _ _ _ _ _ _ w _ _ _ _ _ _ h _ _ _;have:=XA a;omega
 |succ n ih=>
 intro a b va ka vb kb vca vcb w ha hb hca hcb hoa hob hda hdb hza hzb
 have HA:=hid ha
 have HB:=hid hb
 have HCA:Hid (∀ w',Below w.heap.size w w'->SlP w' w'.heap.size 3 SpE vca ca):=fun w' hb=>hca.imp hb hb.size fun _ _ _ h=>h
 have HCB:Hid (∀ w',Below w.heap.size w w'->SlP w' w'.heap.size 3 SpE vcb cb):=fun w' hb=>hcb.imp hb hb.size fun _ _ _ h=>h
 have hea:=es_sz a
 have heb:=es_sz b
 have hel:=Ze ca cb _ a.es b.es (Nat.le_refl _)
 obtain⟨A1,n1,A2,n2,rfl,rfl⟩:=Qk ha
 obtain⟨A3,n3,A4,n4,rfl,rfl⟩:=Qk hb
 obtain⟨A5,n5,rfl,_⟩:=hca
 obtain⟨A6,n6,rfl,_⟩:=hcb
 have hb0:Below w.heap.size w (((w.alloc (.cells #[.slice A1 a.es.length n1,.slice A2 a.ks.length n2] 25)).alloc (.cells #[.slice A3 b.es.length n3,.slice A4 b.ks.length n4] 25)).alloc (.cells #[.slice none 0 0,.slice none 0 0] 25)):=(((Below.refl _ w).alloc (Nat.le_refl _) _).alloc (by simp) _).alloc (by simp;omega) _
 have HW:Hid (∀ w',Below (w.heap.size+3) (((w.alloc (.cells #[.slice A1 a.es.length n1,.slice A2 a.ks.length n2] 25)).alloc (.cells #[.slice A3 b.es.length n3,.slice A4 b.ks.length n4] 25)).alloc (.cells #[.slice none 0 0,.slice none 0 0] 25)) w'->Below w.heap.size w w'/\w.heap.size+3<=w'.heap.size/\w'.heap[w.heap.size]?=some (.cells #[.slice A1 a.es.length n1,.slice A2 a.ks.length n2] 25 (0,0))/\w'.heap[w.heap.size+1]?=some (.cells #[.slice A3 b.es.length n3,.slice A4 b.ks.length n4] 25 (0,0))/\w'.heap[w.heap.size+2]?=some (.cells #[.slice none 0 0,.slice none 0 0] 25 (0,0))):=fun w' hb=>
  ⟨hb0.trans (hb.mono (by omega)),by have:=hb.size;simpa using this,(hb.block _ (by omega)).trans ((Qh (by simp<;>omega)).trans ((Qh (by simp)).trans (Qf rfl))),(hb.block _ (by omega)).trans ((Qh (by simp)).trans (Qf (by simp))),(hb.block _ (by omega)).trans (Qf (by simp))⟩
 have HOA:=hid hoa
 have HOB:=hid hob
 clear ha hb hoa hob
 go_enter Tryz.func111,Tryz.ntmps111
 go_wp2_with fail
 refine (Yf a.es b.es ca cb _ _ _ _ _ ((J8 HA.out).imp hb0 hb0.size fun _ _ _ h=>h) ((J8 HB.out).imp hb0 hb0.size fun _ _ _ h=>h) (HCA.out _ hb0) (HCB.out _ hb0) (by omega) hN1 hN2).mono ?_
 rintro e w1 ⟨v1,rfl,ho1,hb1⟩
 obtain⟨Ae,ce,rfl⟩:=OwnP.shape ho1
 have HO1:=hid ho1
 have hJ:joinT (n+1) ca cb a b=.mk (entL ca cb a.es b.es) ((joinK a b).flatMap (joinF fun k=>joinT n ca cb (kidT a k) (kidT b k))):=rfl
 have HJ:=hid hJ
 generalize entL ca cb a.es b.es=E at *
 have hb1':=hid (hb1.mono (show w.heap.size+3<=_ by simp))
 obtain⟨hB1,hs1,g0,g1,g2⟩:=HW.out _ hb1'.out
 have a1:w1.cell? ⟨w.heap.size,1,none⟩=some (.slice A2 a.ks.length n2):=Qa (i:=1) g0
 have b1:w1.cell? ⟨w.heap.size+1,1,none⟩=some (.slice A4 b.ks.length n4):=Qa (i:=1) g1
 have hlt0:w.heap.size<w1.heap.size:=by omega
 have hlt1:w.heap.size+1<w1.heap.size:=by omega
 have hne0:w.heap.size≠w1.heap.size:=by omega
 have hne1:w.heap.size+1≠w1.heap.size:=by omega
 clear ho1 hJ g0 g1 g2 hb1
 have hb2:Below w.heap.size w ((w1.alloc (.cells #[.slice Ae E.length ce,.slice none 0 0] 25)).alloc (.cells #[.slice A2 a.ks.length n2,.slice A4 b.ks.length n4] 23)):=(hB1.alloc (by omega) _).alloc (by simp;omega) _
 go_wp2_with fail
 refine (Yz w w.heap.size a.ks b.ks _ _ (w1.heap.size+1) _ (by simp) (by simp) (by simp) ((ZP HA.out).imp hb2 hb2.size fun _ _ _ h=>h) ((ZP HB.out).imp hb2 hb2.size fun _ _ _ h=>h) (by omega) (by omega)).mono ?_
 rintro e w2 ⟨v2,rfl,ho2,hb3⟩
 have hs2:=hb3.size
 simp only[World.size_alloc]at hs2
 have hb12:Below (w1.heap.size+1) (w1.alloc (.cells #[.slice Ae E.length ce,.slice none 0 0] 25)) w2:=((Below.refl _ _).alloc (by simp) _).trans (hb3.mono (by simp))
 obtain⟨Ac,cc,rfl⟩:=OwnP.shape ho2
 have HSL:=hid (ho2.sl (by unfold Big;simp;omega))
 have HB12:=hid hb12
 clear ho2 hb3 hb12 a1 b1 hb2
 obtain⟨KS,hKS⟩:∃ KS,KS=a.ks++b.ks:=⟨_,rfl⟩
 have hKl:KS.length<=200000:=by rw[hKS,List.length_append];omega
 rw[←hKS]at HSL ⊢
 have HKS:=hid hKS
 clear hKS
 go_wp2_with fail
 go_loopw [10,31] (fun v i wr=>∃ k:Nat,k<=KS.length/\i=.int .i64 k/\OwnP wr w2.heap.size 9 1 StE v ((KS.take k).map (·.1))/\Below w2.heap.size w2 wr) (fun _ i _=>KS.length-(intOf i).toNat)
 case atStart=>exact⟨0,Nat.zero_le _,rfl,OwnP.nil,Below.refl _ _⟩
 case round=>
  obtain⟨k,hk,rfl,hown,hb⟩:=hrel
  have hsz:=hb.size
  by_cases hlt:k<KS.length
  ·obtain⟨⟨key,t⟩,hx⟩:∃ x,KS[k]?=some x:=⟨_,List.getElem?_eq_getElem hlt⟩
   obtain⟨A,m,hv,c1,c2,c3⟩:=HSL.out
   cases hv
   obtain⟨b,off,rfl,hbB,hc⟩:=c3 (by rintro rfl;simp at hlt)
   obtain⟨cs,⟨ve',vk',rfl,hkb,hrd⟩,_,hu⟩:=hc k _ hx
   obtain⟨A5,n5,A6,n6,rfl,rfl⟩:=Qk hrd
   have e0:wr.cell? ⟨b,off+k*3,none⟩=some (.string key):=(hb.cell hbB).trans (hu 0 _ rfl)
   have e1:wr.cell? ⟨b,off+k*3+1,none⟩=some (.slice A5 t.es.length n5):=(hb.cell hbB).trans (hu 1 _ rfl)
   have e2:wr.cell? ⟨b,off+k*3+2,none⟩=some (.slice A6 t.ks.length n6):=(hb.cell hbB).trans (hu 2 _ rfl)
   have HX:Hid ((KS.take (k+1)).map (·.1)=(KS.take k).map (·.1)++[key]):=by unfold Hid;rw[List.take_add_one,hx];simp
   have HL:Hid (((KS.take k).map (·.1)).length + [key].length<=Few):=by unfold Hid Few;simp;omega
   have HKY:Hid (StE key [.string key]):=⟨rfl,hkb⟩
   clear hu hc c3 hx hrd
   go_wp2_with (at_builtin;go_loud ((with_reducible refine Qj rfl (.tmp 35) (.tmp 38) _ rfl eiStr (by decide) (by decide) (fun _ _ h=>StE.one h) rfl ((hown.alloc _).alloc _) rfl (SlP.oneN (x:=key) HKY.out rfl _ rfl) HL.out (by simp only[World.size_alloc];omega) ?_);intro v1 w3 hown1 hb2 _;have hb3:=(((Below.refl w2.heap.size wr).alloc (by omega) _).alloc (by simp only[World.size_alloc];omega) _).trans hb2))
   go_roundw
   case rel=>exact⟨k+1,by omega,by go_num,by rw[HX.out];exact hown1,hb.trans hb3⟩
   case measure=>simp[intOf];omega
  ·obtain rfl:k=KS.length:=by omega
   rw[List.take_of_length_le (Nat.le_refl _)]at hown
   go_wp2_with fail
   refine (YA _ _ _ _ hown (by simp;omega) hsz).mono ?_
   rintro e w3 ⟨rfl,ho3,hb3⟩
   have hs3:w2.heap.size<=w3.heap.size:=Nat.le_trans hsz hb3.size
   go_wp2_with fail
   refine (Zv _ _ _ _ ho3 (by rw[Xx];simp;omega) hs3).mono ?_
   rintro e w4 ⟨v4,rfl,ho4,hb4⟩
   have hs4:w2.heap.size<=w4.heap.size:=Nat.le_trans hs3 hb4.size
   have hKK:cmpL (srtL (KS.map (·.1)))=joinK a b:=by unfold joinK;rw[HKS.out]
   rw[hKK]at ho4
   have hkl:=X2 a b
   have hB24:Below w2.heap.size w2 w4:=(hb.trans hb3).trans hb4
   have HKM:Hid (∀ x∈joinK a b,1<=n):=fun x hx=>X3 hda hdb hx
   clear hKK hown ho3 hb hb3 hb4 hsz hs3 hlt hk
   have hB14:Below (w1.heap.size+1) (w1.alloc (.cells #[.slice Ae E.length ce,.slice none 0 0] 25)) w4:=HB12.out.trans (hB24.mono (by omega))
   have HG4:Hid (w4.heap[w1.heap.size]?=some (.cells #[.slice Ae E.length ce,.slice none 0 0] 25 (0,0))):=(hB14.block _ (by omega)).trans (Qf rfl)
   have HB14:Hid (Below w1.heap.size w1 w4):=((Below.refl _ w1).alloc (Nat.le_refl _) _).trans (hB14.mono (by omega))
   have HSLA:=hid (ho4.sla (by unfold Big;omega))
   obtain⟨A9,c9,hv4⟩:=OwnP.shape ho4
   subst hv4
   clear ho4 hB14 hB24 wr
   have hJK:Hid ((joinK a b).flatMap (joinF fun k=>joinT n ca cb (kidT a k) (kidT b k))=(joinK a b).flatMap (joinF fun k=>joinT n ca cb (kidT a k) (kidT b k))):=rfl
   generalize hKKe:joinK a b=KK at *
   have HKKe:=hid hKKe
   clear hKKe
   generalize hFF:(fun k=>joinT n ca cb (kidT a k) (kidT b k))=F at *
   have HF:Hid (∀ k,F k=joinT n ca cb (kidT a k) (kidT b k)):=fun k=>by rw[←hFF]
   clear hFF hJK
   have hlt4:w1.heap.size<w4.heap.size:=by omega
   go_wp2_with fail
   go_loopw [46] (fun i wr=>∃ k:Nat,k<=KK.length/\i=.int .i64 k/\∃ Ak ck,wr.heap[w1.heap.size]?=some (.cells #[.slice Ae E.length ce,.slice Ak ((KK.take k).flatMap (joinF F)).length ck] 25 (0,0)) /\
     OwnD wr w4.heap.size 96 3 KdA (fun b=>w4.heap.size<=b) (.slice Ak ((KK.take k).flatMap (joinF F)).length ck) ((KK.take k).flatMap (joinF F))/\w4.heap.size<=wr.heap.size/\Below w1.heap.size w1 wr/\∀ b,w1.heap.size<b->b<w4.heap.size->wr.heap[b]?=w4.heap[b]?) (fun i _=>KK.length-(intOf i).toNat)
   case atStart=>exact⟨0,Nat.zero_le _,rfl,none,0,HG4.out,OwnP.nil,Nat.le_refl _,HB14.out,fun _ _ _=>rfl⟩
   case round=>
    obtain⟨k,hk,rfl,Ak,ck,hg,hown,hsz,hb,hkp⟩:=hrel
    have hB0:Below w.heap.size w wr:=hB1.trans (hb.mono (by omega))
    have hszk:=hown.lt
    by_cases hlt:k<KK.length
    ·obtain⟨key,hx⟩:∃ x,KK[k]?=some x:=⟨_,List.getElem?_eq_getElem hlt⟩
     obtain⟨A,m,hv,c1,c2,c3⟩:=HSLA.out
     cases hv
     obtain⟨b',off,rfl,hbB,hc⟩:=c3 (by rintro rfl;simp at hlt)
     obtain⟨cs,⟨rfl,hkb⟩,_,hu⟩:=hc k _ hx
     have e0:wr.cell? ⟨b',off+k,none⟩=some (.string key):=(by unfold World.cell?;rw[hkp b' (by have:=hbB.1;omega) hbB.2.1]:wr.cell? ⟨b',off+k,none⟩=w4.cell? ⟨b',off+k,none⟩).trans (by simpa using hu 0 _ rfl)
     have hn1:=HKM.out key (List.mem_of_getElem? hx)
     have HX:=hid (Xa hx F)
     have HJL:=Q9 F (KK.take k)
     rw[List.length_take]at HJL
     generalize (KK.take k).flatMap (joinF F)=js at *
     have HL:Hid (js.length + [(key,F key)].length<=Few):=by unfold Hid Few;simp;omega
     have HKB:=hid hkb
     have HC8:Hid (∀ W,Below wr.heap.size wr W->(W.cell? ⟨w.heap.size,0,none⟩=some (.slice A1 a.es.length n1)/\W.cell? ⟨w.heap.size,1,none⟩=some (.slice A2 a.ks.length n2)/\W.cell? ⟨w.heap.size+1,0,none⟩=some (.slice A3 b.es.length n3)/\W.cell? ⟨w.heap.size+1,1,none⟩=some (.slice A4 b.ks.length n4))/\Below w.heap.size w W):=fun W hW=>by
      obtain⟨q0,_,q1,q2,_⟩:=HW.out W (hb1'.out.trans ((hb.mono (by omega)).trans (hW.mono (by omega))))
      exact⟨⟨Qa (i:=0) q1,Qa (i:=1) q1,Qa (i:=0) q2,Qa (i:=1) q2⟩,q0⟩
     have HRA:Hid (∀ W,Below wr.heap.size wr W->a.rd W W.heap.size (.slice A1 a.es.length n1) (.slice A2 a.ks.length n2)):=fun W hW=>Qi (HC8.out W hW).2 (HC8.out W hW).2.size _ _ _ HA.out
     have HRB:Hid (∀ W,Below wr.heap.size wr W->b.rd W W.heap.size (.slice A3 b.es.length n3) (.slice A4 b.ks.length n4)):=fun W hW=>Qi (HC8.out W hW).2 (HC8.out W hW).2.size _ _ _ HB.out
     obtain⟨⟨q0,q1,q2,q3⟩,_⟩:=HC8.out wr (Below.refl _ _)
     have HIH:=hid (ih (kidT a key) (kidT b key))
     have HDA:=hid (Yq HOA.out hda hn1 key)
     have HDB:=hid (Yq HOB.out hdb hn1 key)
     have HZA:=hid (Nat.le_trans (Xw a key) hza)
     have HZB:=hid (Nat.le_trans (Xw b key) hzb)
     have hFk:=HF.out key
     have HFK:=hid hFk
     clear hu hc c3 hx hkb hn1 hFk ih
     go_upto_region 12 with (fail)
     go_region_held3 (fun w'=>w'.cell? ⟨w.heap.size,0,none⟩=some (.slice A1 a.es.length n1)/\w'.cell? ⟨w.heap.size,1,none⟩=some (.slice A2 a.ks.length n2)/\w'.cell? ⟨w.heap.size+1,0,none⟩=some (.slice A3 b.es.length n3)/\w'.cell? ⟨w.heap.size+1,1,none⟩=some (.slice A4 b.ks.length n4))
      (first|go_keep|exact (HC8.out _ hbk3.out).1|exact (HC8.out _ (hbk3.out.alloc hbk3.out.size _)).1|exact (HC8.out _ hbk2.out).1|exact (HC8.out _ (hbk2.out.alloc hbk2.out.size _)).1|exact (HC8.out _ hbk1.out).1|exact (HC8.out _ (hbk1.out.alloc hbk1.out.size _)).1|exact (HC8.out _ ((hbk3.out.setCell hge.out _).setCell hge.out _)).1)
      (first
          |(have hq:=hbk2;go_at_call 111;go_loud ((refine (HIH.out _ _ _ _ _ _ _ (by first|exact HQA2.out|exact Qi (QI (Below.refl _ _)) (by simp) _ _ _ HQA2.out) (by first|exact HQB.out|exact Qi (QI (Below.refl _ _)) (by simp) _ _ _ HQB.out) (HCA.out _ (HC8.out _ (by first|exact hbk2.out|exact hbk2.out.alloc hbk2.out.size _)).2) (HCB.out _ (HC8.out _ (by first|exact hbk2.out|exact hbk2.out.alloc hbk2.out.size _)).2) (Yn HOA.out key) (Yn HOB.out key) HDA.out HDB.out HZA.out HZB.out).mono ?_);rw[←HFK.out];rintro e w7 ⟨ve7,vk7,rfl,hrd7,hb⟩;obtain⟨Av,nv,Aw,nw,rfl,rfl⟩:=Q5 hrd7;have HR7:=hid hrd7;have hb':Below w6.heap.size w6 w7:=(by first|exact hb|exact QI hb);have hbk3:Hid (Below wr.heap.size wr w7):=hbk2.out.trans (hb'.mono (by have:=hbk2.out.size;simpa using this));(try (have hnN:=hid (lt_of_block hbox.out);have hbox:=hid ((hb.block _ hnN.out).trans hbox.out)));(try (have hbox:Hid (w7.heap[w6.heap.size]?=some (.cells #[.slice none 0 0,.slice none 0 0] 25 (0,0))):=(hb.block _ (by simp;done)).trans (Qf rfl);have hnN:Hid (w6.heap.size<(w6.alloc (.cells #[.slice none 0 0,.slice none 0 0] 25)).heap.size):=(by unfold Hid;simp);have hge:=hid hs6));(try (have z0:=Qb (i:=0) hbox.out;have z1:=Qb (i:=1) hbox.out;have y0:=Qa (i:=0) hbox.out;have y1:=Qa (i:=1) hbox.out));clear hrd7 hb hb'))
          |(have hq:=hbk1;go_at_call 156;go_loud ((refine (Yo b key _ _ _ (HRB.out _ (by first|exact hbk1.out|exact hbk1.out.alloc hbk1.out.size _)) HOB.out).mono ?_);rintro e w6 ⟨ve6,vk6,rfl,hrd6,hb⟩;have hb':Below w5.heap.size w5 w6:=(by first|exact hb|exact QI hb);have HQB:=hid (Qi hb hb.size _ _ _ hrd6);have HQA2:=hid (Qi hb' hb'.size _ _ _ HQA.out);have hbk2:Hid (Below wr.heap.size wr w6):=hbk1.out.trans (hb'.mono (by have:=hbk1.out.size;simpa using this));have hs6:=hbk2.out.size;(try (have hbox:=hid ((hb.block _ (lt_of_block hbox.out)).trans hbox.out)));(try (have hbox:Hid (w6.heap[w5.heap.size]?=some (.cells #[.slice none 0 0,.slice none 0 0] 25 (0,0))):=(hb.block _ (by simp;done)).trans (Qf rfl);have hge:=hid hs5));clear hrd6 hb hb'))
          |(go_at_call 156;go_loud ((refine (Yo a key _ _ _ (HRA.out _ (by go_grown)) HOA.out).mono ?_);rintro e w5 ⟨ve5,vk5,rfl,hrd5,hb⟩;have HQA:=hid (Qi hb hb.size _ _ _ hrd5);have hbk1:Hid (Below wr.heap.size wr w5):=(Below.trans (by go_grown) (hb.mono (by simp)));have hs5:=hbk1.out.size;(try (have hbox:Hid (w5.heap[wr.heap.size]?=some (.cells #[.slice none 0 0,.slice none 0 0] 25 (0,0))):=(hb.block _ (by simp;done)).trans (Qf (by simp));have hge:=hid (Nat.le_refl wr.heap.size)));clear hrd5 hb)))
     all_goals (
      first
       |have hFIN:=hid (qZg hbox.out hge.out hbk3.out HR7.out hnN.out)
       |have hFIN:=hid (qZh (e:=25) hbk3.out HR7.out (by have:=hbk2.out.size;simp;omega))
      have hge4:=hbk3.out.size
      obtain⟨q4,q5,_,_⟩:=hFIN.out _ (Below.refl _ _)
      go_wp2_with fail
      refine (Qy _ _ _ _ _ _ _).mono ?_
      rintro e w8 ⟨rfl,hb8⟩
      obtain⟨q6,q7,hb9,hrd9⟩:=hFIN.out _ hb8
      have hs9:=hb9.size
      have hg8:=(hb9.block w1.heap.size (by omega)).trans hg
      have hkp8:∀ b,w1.heap.size<b->b<w4.heap.size->w8.heap[b]?=w4.heap[b]?:=fun b h1 h2=>(hb9.block b (by omega)).trans (hkp b h1 h2)
      have hown8:=hown.grow KdA.mon hb9
      clear q0 q1 q2 q3 q4 q5
      cases he:empB (F key).es.length (F key).ks.length
      ·have HX2:Hid ((KK.take (k+1)).flatMap (joinF F)=js++[(key,F key)]):=by
        unfold Hid;rw[HX.out];unfold joinF;rw[←Zr,he];rfl
       have c9:w8.cell? ⟨w1.heap.size,1,none⟩=some (.slice Ak js.length ck):=Qa (i:=1) hg8
       have hlt8:w1.heap.size<w8.heap.size:=by omega
       clear he
       go_wp2_with (at_builtin;go_loud ((with_reducible refine Yj (v:=.slice Ak js.length ck) rfl (.tmp 63) (.tmp 67) _ rfl KdA.mon eiKid (by decide) (by decide) rfl (hown8.grow KdA.mon ((Below.refl _ w8).alloc (Nat.le_refl _) (.cells #[.string key,.slice Av (F key).es.length nv,.slice Aw (F key).ks.length nw] 96))) rfl (qQ8 hrd9 HKB.out (fun b hb=>⟨hb.2,by have:=hb.1;omega,by rw[World.size_alloc];have:=hb.2;omega,fun e=>by have:=hszk b e;have:=hb.1;omega⟩) _ (by rw[World.size_alloc];omega)) HL.out (by rw[World.size_alloc];omega) ?_);intro v1 w9 hown9 hb10 _ _;have hsh9:∃ A c,v1=.slice A (js++[(key,F key)]).length c:=OwnP.shape hown9;obtain⟨A1',c1',hv1⟩:=hsh9;subst hv1;have hg9:=hid ((hb10.block _ hlt4).trans ((Qh hlt8).trans hg8));have hc9:w9.cell? ⟨w1.heap.size,1,none⟩=some (.slice Ak js.length ck):=Qa (i:=1) hg9.out;have hf9:=Qb (i:=1) hg9.out))
       have hb11:=((hb9.mono (show w4.heap.size<=_ from hsz)).alloc (show w4.heap.size<=w8.heap.size by omega) _).trans hb10
       have hs11:=hb11.size
       go_roundw
       case rel=>
        refine⟨k+1,by omega,by go_num,A1',c1',?_,?_,?_,?_,?_⟩
        ·rw[HX2.out];simpa using Qe (i:=1) hg9.out (.slice A1' (js.length+1) c1')
        ·rw[HX2.out];exact OwnD.setOther hown9 KdA.mon hlt4 (by simp;omega) _
        ·simp[World.setCell];omega
        ·exact (hb.trans (hb11.mono (by omega))).setCell (by simp) _
        ·intro b h1 h2
         exact (Below.heap_setCell _ _ _ _ (by simp;omega)).trans ((hb11.block b h2).trans (hkp b h1 h2))
       case measure=>simp[intOf];omega
      ·have HX2:Hid ((KK.take (k+1)).flatMap (joinF F)=js):=by
        unfold Hid;rw[HX.out];unfold joinF;rw[←Zr,he];simp
       clear he
       go_wp2_with fail
       go_roundw
       case rel=>exact⟨k+1,by omega,by go_num,Ak,ck,by rw[HX2.out];exact hg8,by rw[HX2.out];exact hown8,by omega,hb.trans (hb9.mono (by omega)),hkp8⟩
       case measure=>simp[intOf];omega)
    ·obtain rfl:k=KK.length:=by omega
     rw[List.take_of_length_le (Nat.le_refl _)]at hg hown hszk
     have hJe:joinT (n+1) ca cb a b=.mk E (KK.flatMap (joinF F)):=by
      rw[HJ.out,←HKKe.out]
     have hjl:=Q9 F KK
     generalize KK.flatMap (joinF F)=JS at *
     have c0:wr.cell? ⟨w1.heap.size,0,none⟩=some (.slice Ae E.length ce):=Qa (i:=0) hg
     have c1:wr.cell? ⟨w1.heap.size,1,none⟩=some (.slice Ak JS.length ck):=Qa (i:=1) hg
     have hg2:=(HW.out wr (hb1'.out.trans (hb.mono (by omega)))).2.2.2.2
     have d0:wr.cell? ⟨w.heap.size+2,0,none⟩=some (.slice none 0 0):=Qa (i:=0) hg2
     have d1:wr.cell? ⟨w.heap.size+2,1,none⟩=some (.slice none 0 0):=Qa (i:=1) hg2
     have z0:=Qb (i:=0) hg2
     have z1:=Qb (i:=1) hg2
     go_wp2_with fail
     have hW0:=Qe (i:=1) (Qe (i:=0) hg2 (.slice Ae E.length ce)) (.slice Ak JS.length ck)
     have hKW:∀ b,w.heap.size+3<=b->((wr.setCell ⟨w.heap.size+2,0,none⟩ (.slice Ae E.length ce)).setCell ⟨w.heap.size+2,1,none⟩ (.slice Ak JS.length ck)).heap[b]?=wr.heap[b]?:=fun b hb=>(Below.heap_setCell _ _ _ _ (by simp;omega)).trans (Below.heap_setCell _ _ _ _ (by simp;omega))
     have hSW:((wr.setCell ⟨w.heap.size+2,0,none⟩ (.slice Ae E.length ce)).setCell ⟨w.heap.size+2,1,none⟩ (.slice Ak JS.length ck)).heap.size=wr.heap.size:=by simp[World.setCell]
     have hBW:Below w.heap.size w ((wr.setCell ⟨w.heap.size+2,0,none⟩ (.slice Ae E.length ce)).setCell ⟨w.heap.size+2,1,none⟩ (.slice Ak JS.length ck)):=(hB0.setCell (by simp) _).setCell (by simp) _
     clear c0 c1 d0 d1 z0 z1
     generalize ((wr.setCell ⟨w.heap.size+2,0,none⟩ (.slice Ae E.length ce)).setCell ⟨w.heap.size+2,1,none⟩ (.slice Ak JS.length ck))=W at *
     have r0:W.cell? ⟨w.heap.size+2,0,none⟩=some (.slice Ae E.length ce):=(Qa (i:=0) hW0).trans (by simp)
     have r1:W.cell? ⟨w.heap.size+2,1,none⟩=some (.slice Ak JS.length ck):=(Qa (i:=1) hW0).trans (by simp)
     refine bodyPost_ret (v:=.agg #[.slice Ae E.length ce,.slice Ak JS.length ck]) (by simp[results,Tryz.results111,go_sem,r0,r1]) rfl ⟨_,_,rfl,?_,hBW⟩
     rw[hJe,Zz]
     refine⟨(HO1.out.sla (by unfold Big;omega)).up (fun b hb'=>(hKW b (by have:=hb'.1;simp only[World.size_alloc]at this;omega)).trans (hb.block b hb'.2.1)) (fun b hb'=>⟨by have:=hb'.1;simp only[World.size_alloc]at this;omega,by have:=hb'.2.1;omega⟩) (fun _ _ _ h=>h),(OwnP.sla hown (by unfold Big;omega)).up (fun b hb'=>hKW b (by have:=hb'.1;omega)) (fun b hb'=>⟨by have:=hb'.1;omega,by have:=hb'.2.1;omega⟩) ?_⟩
     intro x _ cs hx
     exact KdA.mon.up (fun b hb'=>hKW b (by have:=hb'.1;omega)) (fun b hb'=>⟨by have:=hb'.1;omega,by have:=hb'.2.1;omega⟩) hx
theorem qQg {x y:En}(h:x.dot=y.dot):(grtE x y).dot=x.dot:=by unfold grtE;split<;>simp[h]
def EntJ (ca cb:List Sp)(a b:En->Prop)(e:En):Prop:=
 (∃ x y,a x/\b y/\x.dot=y.dot/\e=grtE x y)∨(a e/\(∀ y,b y->y.dot≠e.dot)/\cHas cb e.dot=false)∨(b e/\(∀ x,a x->x.dot≠e.dot)/\cHas ca e.dot=false)
theorem EntJ.dot {ca cb:List Sp}{a b:En->Prop}{e:En}(h:EntJ ca cb a b e):∃ z,(a z∨b z)/\z.dot=e.dot:=by
 rcases h with⟨x,y,hx,hy,hd,rfl⟩|⟨hx,_,_⟩|⟨hx,_,_⟩
 ·exact⟨x,.inl hx,(qQg hd).symm⟩
 ·exact⟨e,.inl hx,rfl⟩
 ·exact⟨e,.inr hx,rfl⟩
end Go.Proofs.YtbcoelggdikipaaGreat
namespace Go.Proofs.YtbcoelggdikipaaGreat
open Go.RowKit Go.Sort
def cmpR (x y:Int×Int):Int:=cmpI x.1 y.1
theorem Jv (x y:Int×Int):ltOf cmpR x y=decide (x.1<y.1):=Yp x.1 y.1
theorem swoR:SWO (ltOf cmpR) where
 irrefl x:=by rw[Jv];simp
 trans x y z h1 h2:=by rw[Jv]at *;simp at *;omega
 ntrans x y z h1 h2:=by rw[Jv]at *;simp at *;omega
theorem X5 (x y:Int×Int)(W:World):Calls Tryz.prog 184 #[.agg #[.int .i64 x.1,.int .i64 x.2],.agg #[.int .i64 y.1,.int .i64 y.2]] W fun e w'=>e=.returned (.int .i64 (cmpR x y))/\∃ q os',w'=grow (W.drewN q) os':=by
 go_enter Tryz.func184,Tryz.ntmps184
 go_wp2_with (go_at_call 185;refine (ZH _ _ _).mono ?_;rintro e w' ⟨rfl,rfl⟩)
 go_ret
 exact⟨rfl,0,_,by rw[alloc_eq_grow,alloc_eq_grow,grow_grow];rfl⟩
theorem Vv {l:List (Int×Int)}(h:∀ r∈l,runOk r):QL l:=fun r hr=>by
 have:=h r hr;unfold runOk at this;omega
theorem QP:∀ (l:List (Int×Int)) (p:Option Int),runsR p l=true->∀ r∈l,runOk r
 |x :: l,p,h,r,hr=>by
  rw[Qp]at h
  rcases List.mem_cons.1 hr with rfl|hr
  ·exact h.1
  ·exact QP l _ h.2.2 r hr
theorem Kz {a b ts:List (Int×Int)}(ha:runsR none a=true)(hb:runsR none b=true)(hp:ts.Perm (a++b))(hs:ts.Pairwise fun x y=>x.1<=y.1):joinL ts=byL a b 0:=by
 have oa:=QP a none ha
 have ob:=QP b none hb
 have ot:∀ r∈ts,runOk r:=fun r hr=>by
  rcases List.mem_append.1 (hp.subset hr) with h|h
  ·exact oa r h
  ·exact ob r h
 obtain⟨a1,a2⟩:=YG ot hs
 obtain⟨b1,b2⟩:=ZS 0 oa ob
 refine YD _ _ none none a1 b1 fun n=>?_
 rw[a2,b2]
 have:hasL ts n=hasL (a++b) n:=by
  unfold hasL
  rw[Bool.eq_iff_iff,List.any_eq_true,List.any_eq_true]
  exact⟨fun ⟨r,h1,h2⟩=>⟨r,hp.subset h1,h2⟩,fun ⟨r,h1,h2⟩=>⟨r,hp.symm.subset h1,h2⟩⟩
 rw[this,Q0]
 simp[inn]
theorem X6 (a b:List (Int×Int))(va vb:Value)(w:World)(ha:SlP w w.heap.size 2 RuE va a)(hb:SlP w w.heap.size 2 RuE vb b) :
  Calls Tryz.prog 135 #[va,vb] w fun e w'=>e=.returned (.bool (runsR none a&&runsR none b))/\Below w.heap.size w w':=by
 have HB:=hid hb
 go_enter Tryz.func135,Tryz.ntmps135
 go_wp2_with fail
 refine (Q6 a va w ha).mono ?_
 rintro e w1 ⟨rfl,hb1⟩
 have hs1:=hb1.size
 cases hr:runsR none a
 ·have HR:=hid hr
  clear hr
  go_wp2_with fail
  go_ret
  exact⟨Qd (by rw[HR.out];rfl),hb1⟩
 ·have HR:=hid hr
  clear hr
  go_wp2_with fail
  refine (Q6 b vb w1 (HB.out.imp hb1 hs1 fun _ _ _ h=>h)).mono ?_
  rintro e w2 ⟨rfl,hb2⟩
  go_wp2_with fail
  go_ret
  exact⟨Qd (by rw[HR.out];rfl),hb1.trans (hb2.mono hs1)⟩
theorem KA (a b:List (Int×Int))(va vb:Value)(w:World)(ha:SlP w w.heap.size 2 RuE va a)(hb:SlP w w.heap.size 2 RuE vb b)(hra:runsR none a=true)(hrb:runsR none b=true)(hN:a.length<=300000)(hN':b.length<=300000) :
  Calls Tryz.prog 157 #[va,vb] w (RetO w 167 2 (fun _=>RuE) (byL a b 0)):=by
 have HA:=hid ha
 have HB:=hid hb
 have HRA:=hid hra
 have HRB:=hid hrb
 have hor:QL (a++b):=Vv fun r hr=>by
  rcases List.mem_append.1 hr with h|h
  ·exact QP a none hra r h
  ·exact QP b none hrb r h
 have HOR:=hid hor
 obtain⟨A1,c1,rfl,_⟩:=ha
 obtain⟨A2,c2,rfl,_⟩:=hb
 clear hra hrb hor
 go_enter Tryz.func157,Tryz.ntmps157
 go_wp2_with fail
 refine (X6 a b _ _ w HA.out HB.out).mono ?_
 rw[HRA.out,HRB.out]
 rintro e w1 ⟨rfl,hb1⟩
 have hs1:=hb1.size
 go_wp2_with fail
 refine (Ku a b (.slice A1 a.length c1) (.slice A2 b.length c2) w1.heap.size _ (by simp) (by simp) (by simp) (HA.out.imp (hb1.alloc hs1 _) (by simp;omega) fun _ _ _ h=>h) (HB.out.imp (hb1.alloc hs1 _) (by simp;omega) fun _ _ _ h=>h) hN hN').mono ?_
 rintro e w2 ⟨v2,rfl,ho2,hb2⟩
 have hs2:=hb2.size
 simp only[World.size_alloc]at hs2
 have hB2:Below w.heap.size w w2:=(hb1.alloc hs1 _).trans (hb2.mono (by simp;omega))
 have ho2':OwnP w2 (w1.heap.size+1) 167 2 RuE v2 ((a++b).map id):=by rw[List.map_id];exact ho2.mono (by simp)
 go_wp2_with fail
 refine (YC id cmpR swoR 184 (enters_of Tryz.func184 (by kernel_rfl) rfl) (fun x y W=>X5 x y W) (a++b) v2 w2 _ ho2' (by simp;omega) hs2).mono ?_
 rintro e w3 ⟨rfl,ts,hp,hs,ho3,hb3⟩
 rw[List.map_id]at ho3
 have hs3:=hb3.size
 have hJ:=Kz HRA.out HRB.out hp (hs.imp fun h=>(YI _ _).1 h)
 have HJ:=hid hJ
 have hlen:ts.length=a.length+b.length:=by rw[hp.length_eq,List.length_append]
 have hsl:=ho3.sl (by rw[hlen];unfold Big;omega)
 have HSL:=hid hsl
 have HTR:Hid (QL ts):=fun r hr=>HOR.out r (hp.subset hr)
 have hl3:ts.length<=900000:=by omega
 clear hp hs ho3 hJ hsl ho2 ho2' hlen
 go_wp2_with fail
 refine (YH ts _ w3 HSL.out hl3 HTR.out).mono ?_
 rintro e w4 ⟨v4,rfl,ho4,hb4⟩
 rw[HJ.out]at ho4
 go_wp2_with fail
 go_ret
 exact⟨_,rfl,ho4.mono (by omega),(hB2.trans (hb3.mono (by omega))).trans (hb4.mono (by omega))⟩
end Go.Proofs.YtbcoelggdikipaaGreat
namespace Go.Proofs.YtbcoelggdikipaaGreat
open Go.RowKit
def Jw (g:Nat)(how:Int):Prop:=
 (∀ args W,(callFunc g args).run Tryz.prog W=.ok (.enter g args) W) /\
 ∀ (a b:List (Int×Int)) (va vb:Value) (W:World),SlP W W.heap.size 2 RuE va a->SlP W W.heap.size 2 RuE vb b->runsR none a=true->runsR none b=true->a.length<=100000->b.length<=100000 ->
  Calls Tryz.prog g #[va,vb] W (RetO W 167 2 (fun _=>RuE) (byL a b how))
def ByA (a b:List Sp)(how:Int)(vs us:Nat->Value)(w1 w2:World)(k:Nat)(wr:World):Prop:=
 ∃ ps:Nat->Value,wr.heap[w1.heap.size]?=some (.cells #[ps 0,ps 1,ps 2,ps 3] 162 (0,0))/\wr.heap[w2.heap.size]?=some (.cells #[us 0,us 1,us 2,us 3] 162 (0,0)) /\
  (∀ j,j<k->OwnP wr (w2.heap.size+1) 167 2 RuE (ps j) (byL (partL a (j:Int)) (partL b (j:Int)) how))/\(∀ j,k<=j->ps j=vs j)/\(∀ blk,w1.heap.size<blk->blk<w2.heap.size->wr.heap[blk]?=w2.heap[blk]?)/\Below w1.heap.size w1 wr
theorem Vw (a b:List Sp)(how:Int)(g:Nat)(hf:Jw g how)(va vb:Value)(w:World)(ha:SlP w w.heap.size 3 SpE va a)(hb:SlP w w.heap.size 3 SpE vb b)(hra:Qm a=true)(hrb:Qm b=true)(hN:a.length<=20000)(hN':b.length<=20000) :
  Calls Tryz.prog 93 #[va,vb,.func (.func g) #[] #[]] w (RetO w 45 3 (fun _=>SpE) (ctxBy a b how)):=by
 obtain⟨eg,hf⟩:=hf
 have HA:=hid ha
 have HB:=hid hb
 obtain⟨A1,c1,rfl,_⟩:=ha
 obtain⟨A2,c2,rfl,_⟩:=hb
 go_enter Tryz.func93,Tryz.ntmps93
 go_wp2_with fail
 refine (ZJ a _ w HA.out (by omega)).mono ?_
 rintro e w1 ⟨vs,rfl,hsl,hb1⟩
 have hs1:=hb1.size
 rw[hra]
 simp only[hra,if_true]at hsl
 obtain⟨B0,m0,g0,_⟩:=hsl 0 (by omega)
 obtain⟨B1,m1,g1,_⟩:=hsl 1 (by omega)
 obtain⟨B2,m2,g2,_⟩:=hsl 2 (by omega)
 obtain⟨B3,m3,g3,_⟩:=hsl 3 (by omega)
 have HVS:=hid (fun i (hi:i<4)=>(hsl i hi).slp (fun b hb=>hb.2) (Below.refl _ w1))
 have G0:=hid g0
 have G1:=hid g1
 have G2:=hid g2
 have G3:=hid g3
 simp only[g0,g1,g2,g3]
 clear hsl g0 g1 g2 g3
 go_wp2_with fail
 refine (ZJ b _ _ (HB.out.imp (hb1.alloc hs1 _) (by simp;omega) fun _ _ _ h=>h) (by omega)).mono ?_
 rintro e w2 ⟨us,rfl,hsl,hb2⟩
 have hs2:=hb2.size
 simp only[World.size_alloc]at hs2
 rw[hrb]
 simp only[hrb,if_true]at hsl
 obtain⟨D0,n0,k0,_⟩:=hsl 0 (by omega)
 obtain⟨D1,n1,k1,_⟩:=hsl 1 (by omega)
 obtain⟨D2,n2,k2,_⟩:=hsl 2 (by omega)
 obtain⟨D3,n3,k3,_⟩:=hsl 3 (by omega)
 have HUS:=hid hsl
 have K0:=hid k0
 have K1:=hid k1
 have K2:=hid k2
 have K3:=hid k3
 simp only[k0,k1,k2,k3]
 clear hsl k0 k1 k2 k3
 have hp2:=hid ((hb2.block w1.heap.size (by simp)).trans (Qf rfl))
 have hB2:Below w1.heap.size w1 w2:=((Below.refl _ w1).alloc (Nat.le_refl _) _).trans (hb2.mono (by simp))
 go_wp2_with fail
 go_loopw [28] (fun i wr=>∃ k:Nat,k<=4/\i=.int .i64 k/\ByA a b how vs us w1 w2 k wr) (fun i _=>4-(intOf i).toNat)
 case atStart=>
  refine⟨0,by omega,rfl,vs,?_,?_,fun j hj=>absurd hj (Nat.not_lt_zero _),fun _ _=>rfl,fun blk _ hb=>Qh hb,hB2.alloc (by omega) _⟩
  ·rw[Qh (by omega),G0.out,G1.out,G2.out,G3.out];exact hp2.out
  ·rw[Qf rfl,K0.out,K1.out,K2.out,K3.out];rfl
 case round=>
  obtain⟨k,hk,rfl,ps,hpa,hqa,hpo,hpv,hkp,hbr⟩:=hrel
  have hsz:=hbr.size
  have hp3:w1.heap.size<wr.heap.size:=(Array.getElem?_eq_some_iff.1 hpa).1
  have hq3:w2.heap.size<wr.heap.size:=(Array.getElem?_eq_some_iff.1 hqa).1
  by_cases hk4:k<4
  ·have hki:(k:Int)<4:=by omega
   have hla:=Qs a k
   have hlb:=Qs b k
   have hq2:w2.heap.size+1<=wr.heap.size:=by omega
   have HSA:Hid (SlP wr.drew wr.drew.heap.size 2 RuE (vs k) (partL a k)):=(HVS.out k hk4).imp hbr.drew hsz fun _ _ _ h=>h
   have HSB:Hid (SlP wr.drew wr.drew.heap.size 2 RuE (us k) (partL b k)):=Xl.2 ((HUS.out k hk4).up (w':=wr.drew) (fun blk hb=>hkp blk (by have:=hb.1;simp only[World.size_alloc]at this;omega) hb.2) (fun blk hb=>by have:=hb.2;show blk<wr.heap.size;omega) (fun _ _ _ h=>h))
   have hcall:=hf (partL a k) (partL b k) (vs k) (us k) wr.drew HSA.out HSB.out (QT hra hk4) (QT hrb hk4) (by omega) (by omega)
   have hpc:wr.cell? ⟨w1.heap.size,k,none⟩=some (vs k):=by rw[Qa hpa,QO ps hk4,hpv k (Nat.le_refl _)]
   have hqc:wr.cell? ⟨w2.heap.size,k,none⟩=some (us k):=(Qa hqa).trans (QO us hk4)
   have HPA:=hid hpa
   have HQA:=hid hqa
   have HPO:=hid hpo
   have HPV:=hid hpv
   have HKP:=hid hkp
   have HCALL:=hid hcall
   clear hpa hqa hpo hpv hkp hf hcall
   go_wp2_with fail
   refine QU (S:=fun w'=>w'.cell? ⟨w1.heap.size,k,none⟩=some (vs k)/\w'.cell? ⟨w2.heap.size,k,none⟩=some (us k)) 10 (by kernel_rfl) (by kernel_rfl) ?_
   simp only[List.take_succ_cons,List.take_zero,List.drop_succ_cons,List.drop_zero]
   have hHeld:(fun w':World=>w'.cell? ⟨w1.heap.size,k,none⟩=some (vs k)/\w'.cell? ⟨w2.heap.size,k,none⟩=some (us k)) wr.drew:=by go_keep
   refine wpAnyH_take (i:=0) (oi:=_) (v:=?v0) rfl (by kernel_rfl) (by kernel_rfl) (by kernel_rfl) (fun _ _ _ h=>h) (Or.inl ⟨by rfl,?h0⟩) (by assumption) ?_
   case h0=>(intro w hSw;(try dsimp only at hSw);go_simp;(try with_reducible rfl))
   simp only[Act.put,List.setIfInBounds_toArray]
   refine wpAnyH_take (i:=1) (oi:=_) (v:=?v1) rfl (by kernel_rfl) (by kernel_rfl) (by kernel_rfl) (fun _ _ _ h=>h) (Or.inl ⟨by rfl,?h1⟩) (by assumption) ?_
   case h1=>(intro w hSw;(try dsimp only at hSw);go_simp;(try with_reducible rfl))
   simp only[Act.put,List.setIfInBounds_toArray]
   refine wpAnyH_take (i:=2) (oi:=_) (v:=?v2) rfl (by kernel_rfl) (by kernel_rfl) (by kernel_rfl) (fun _ _ _ h=>h) (Or.inl ⟨by rfl,?h2⟩) (by assumption) ?_
   case h2=>(intro w hSw;(try dsimp only at hSw);go_simp;(try with_reducible rfl))
   simp only[Act.put,List.setIfInBounds_toArray]
   refine wpAnyH_take (i:=3) (oi:=_) (v:=?v3) rfl (by kernel_rfl) (by kernel_rfl) (by kernel_rfl) (fun _ _ _ h=>h) (Or.inl ⟨by rfl,?h3⟩) (by assumption) ?_
   case h3=>(intro w hSw;(try dsimp only at hSw);go_simp;(try with_reducible rfl))
   simp only[Act.put,List.setIfInBounds_toArray]
   refine wpAnyH_take (i:=4) (oi:=_) (v:=?v4) rfl (by kernel_rfl) (by kernel_rfl) (by kernel_rfl) (fun _ _ _ h=>h) (Or.inl ⟨by rfl,?h4⟩) (by assumption) ?_
   case h4=>(intro w hSw;(try dsimp only at hSw);go_simp;(try with_reducible rfl))
   simp only[Act.put,List.setIfInBounds_toArray]
   refine wpAnyH_take (i:=5) (oi:=_) (v:=?v5) rfl (by kernel_rfl) (by kernel_rfl) (by kernel_rfl) (fun _ _ _ h=>h) (Or.inl ⟨by rfl,?h5⟩) (by assumption) ?_
   case h5=>(intro w hSw;(try dsimp only at hSw);go_simp;(try with_reducible rfl))
   simp only[Act.put,List.setIfInBounds_toArray]
   refine wpAnyH_take (i:=6) (oi:=_) (v:=?v6) rfl (by kernel_rfl) (by kernel_rfl) (by kernel_rfl) (fun _ _ _ h=>h) (Or.inl ⟨by rfl,?h6⟩) (by assumption) ?_
   case h6=>(intro w hSw;(try dsimp only at hSw);go_simp;(try with_reducible rfl))
   simp only[Act.put,List.setIfInBounds_toArray]
   refine wpAnyH_take (i:=7) (oi:=_) (v:=?v7) rfl (by kernel_rfl) (by kernel_rfl) (by kernel_rfl) (fun _ _ _ h=>h) (Or.inl ⟨by rfl,?h7⟩) (by assumption) ?_
   case h7=>(intro w hSw;(try dsimp only at hSw);go_simp;(try with_reducible rfl))
   simp only[Act.put,List.setIfInBounds_toArray]
   refine wpAnyH_ready (rs:=[8]) (by kernel_rfl) (by simp) ?_
   refine AllReadyH.cons (o:=_) rfl (fun K hK=>?_) AllReadyH.nil
   go_simp
   refine HCALL.out.mono ?_
   rintro e w3 ⟨v3,rfl,ho3,hb3⟩
   obtain⟨A3,c3,rfl⟩:=ho3.shape
   have hb3':Below wr.heap.size wr w3:=(Below.refl _ wr).drew.trans hb3
   have hp4:=(hb3'.block w1.heap.size hp3).trans HPA.out
   have hq4:=(hb3'.block w2.heap.size hq3).trans HQA.out
   have hpc3:w3.cell? ⟨w1.heap.size,k,none⟩=some (vs k):=by rw[Qa hp4,QO ps hk4,HPV.out k (Nat.le_refl _)]
   have hqc3:w3.cell? ⟨w2.heap.size,k,none⟩=some (us k):=(Qa hq4).trans (QO us hk4)
   have hf3:w3.frozen? ⟨w1.heap.size,k,none⟩=false:=Qb hp4
   have HP4:=hid hp4
   have HQ4:=hid hq4
   have HO3:=hid ho3
   have HB3:=hid hb3'
   clear hp4 hq4 ho3 hb3 hb3'
   dsimp only
   refine hK.out _ _ ⟨hpc3,hqc3⟩ (fun hHeld8=>?_)
   clear hK K
   simp only[List.setIfInBounds_toArray]
   refine wpAnyH_take (i:=9) (oi:=_) (v:=?v9) rfl (by kernel_rfl) (by kernel_rfl) (by kernel_rfl) (fun _ _ _ h=>h) (Or.inl ⟨by rfl,?h9⟩) (by assumption) ?_
   case h9=>(intro w hSw;(try dsimp only at hSw);go_simp;(try with_reducible rfl))
   simp only[Act.put,List.setIfInBounds_toArray]
   refine wpAnyH_done (by kernel_rfl) ?_ _
   change wpList _ _ _ _ _ _
   go_wp2_with fail
   go_roundw
   case rel=>
    have hs3:=HB3.out.size
    refine⟨k+1,by omega,by go_num,fun j=>if j=k then .slice A3 (byL (partL a k) (partL b k) how).length c3 else ps j,?_,?_,fun j hj=>?_,fun j hj=>?_,fun blk h1 h2=>?_,(hbr.trans (HB3.out.mono hsz)).setCell (Nat.le_refl _) _⟩
    ·rw[Qe HP4.out,Xp ps hk4]
    ·exact (Below.heap_setCell _ _ _ _ (by show w2.heap.size≠w1.heap.size;omega)).trans HQ4.out
    ·by_cases e:j=k
     ·subst e
      simp only[if_true]
      exact (HO3.out.mono (by show _<=wr.heap.size;omega)).setOther (by show w1.heap.size<_;omega) _
     ·simp only[if_neg e]
      exact ((HPO.out j (by omega)).grow HB3.out).setOther (by show w1.heap.size<_;omega) _
    ·show (if j=k then _ else ps j)=vs j
     rw[if_neg (show ¬j=k by omega)];exact HPV.out j (by omega)
    ·exact (Below.heap_setCell _ _ _ _ (by show blk≠w1.heap.size;omega)).trans ((HB3.out.block blk (by omega)).trans (HKP.out blk h1 h2))
   case measure=>simp[intOf];omega
  ·obtain rfl:k=4:=by omega
   have d0:wr.cell? ⟨w1.heap.size,0,none⟩=some (ps 0):=Qa (i:=0) hpa
   have d1:wr.cell? ⟨w1.heap.size,1,none⟩=some (ps 1):=Qa (i:=1) hpa
   have d2:wr.cell? ⟨w1.heap.size,2,none⟩=some (ps 2):=Qa (i:=2) hpa
   have d3:wr.cell? ⟨w1.heap.size,3,none⟩=some (ps 3):=Qa (i:=3) hpa
   have HOL:∀ j:Nat,(byL (partL a (j:Int)) (partL b (j:Int)) how).length<=80001:=fun j=>by
    have:=Xs (partL a (j:Int)) (partL b (j:Int)) how;have:=Qs a (j:Int);have:=Qs b (j:Int);omega
   have HSP:Hid (∀ j,j<4->SlP wr wr.heap.size 2 RuE (ps j) (byL (partL a (j:Int)) (partL b (j:Int)) how)):=fun j hj=>(hpo j hj).sl (by have:=HOL j;unfold Big;omega)
   have HOLH:=hid HOL
   clear hpa hqa hpo hpv hkp HOL
   go_wp2_with fail
   refine (XV (fun j=>byL (partL a (j:Int)) (partL b (j:Int)) how) ps wr HSP.out (fun j _=>by have:=HOLH.out j;show (byL _ _ _).length<=_;omega)).mono ?_
   rintro e w4 ⟨v4,rfl,ho4,hb4⟩
   go_wp2_with fail
   go_ret
   exact⟨_,rfl,ho4.mono (by omega),(hb1.trans (hbr.mono hs1)).trans (hb4.mono (by omega))⟩
theorem KB:Jw 157 0:=
 ⟨enters_of Tryz.func157 (by kernel_rfl) rfl,fun a b va vb W ha hb hra hrb hN hN'=>KA a b va vb W ha hb hra hrb (by omega) (by omega)⟩
theorem Xc (a b:List Sp)(va vb:Value)(w:World)(ha:SlP w w.heap.size 3 SpE va a)(hb:SlP w w.heap.size 3 SpE vb b)(hra:Qm a=true)(hrb:Qm b=true)(hN:a.length<=20000)(hN':b.length<=20000) :
  Calls Tryz.prog 112 #[va,vb] w (RetO w 45 3 (fun _=>SpE) (ctxBy a b 0)):=by
 go_enter Tryz.func112,Tryz.ntmps112
 go_wp2_with fail
 refine (Vw a b 0 _ KB va vb w ha hb hra hrb hN hN').mono ?_
 rintro e w1 ⟨v,rfl,h⟩
 go_wp2_with fail
 go_ret
 exact⟨v,rfl,h⟩
def cutL:List (Int×Int)->Int->Int->List (Int×Int)
 |[],lo,hi=>if lo<=hi then [(lo,hi)] else []
 |x :: b,lo,hi=>if x.2<lo∨hi<x.1 then cutL b lo hi else if lo<x.1 then (lo,x.1-1) :: cutL b (x.2+1) hi else cutL b (x.2+1) hi
def Qz (a b:List (Int×Int)):List (Int×Int):=a.flatMap fun r=>cutL b r.1 r.2
theorem Jx {a b:List (Int×Int)}{k:Nat}{r:Int×Int}(h:a[k]?=some r):Qz (a.take (k+1)) b=Qz (a.take k) b++cutL b r.1 r.2:=by
 unfold Qz;rw[List.take_add_one,h];simp
theorem Vx {b:List (Int×Int)}{k:Nat}{x:Int×Int}(h:b[k]?=some x)(lo hi:Int):cutL (b.drop k) lo hi=(if x.2<lo∨hi<x.1 then cutL (b.drop (k+1)) lo hi else if lo<x.1 then (lo,x.1-1) :: cutL (b.drop (k+1)) (x.2+1) hi else cutL (b.drop (k+1)) (x.2+1) hi):=by
 have hlt:=(List.getElem?_eq_some_iff.1 h).1
 rw[List.drop_eq_getElem_cons hlt,(List.getElem?_eq_some_iff.1 h).2,cutL]
theorem ZV (x:Int×Int)(l:List (Int×Int))(n:Int):hasL (x :: l) n=(inR x n||hasL l n):=rfl
theorem J9:∀ (l:List (Int×Int)) (q n:Int),runsR (some q) l=true->hasL l n=true->q+1<n
 |x :: l,q,n,h,hn=>by
  rw[Qp]at h
  obtain⟨h1,h2,h3⟩:=h
  unfold runOk at h1
  simp only[okR,decide_eq_true_eq]at h2
  rw[ZV,Bool.or_eq_true]at hn
  rcases hn with hn|hn
  ·simp[inR]at hn;omega
  ·have:=J9 l x.2 n h3 hn;omega
 |[],q,n,_,hn=>by simp[hasL]at hn
theorem qZi {l:List (Int×Int)}{q:Int}(h:runsR (some q) l=true):∀ p:Option Int,(∀ q',p=some q'->q'<=q)->runsR p l=true:=by
 intro p hp
 cases l with
 |nil=>cases p<;>rfl
 |cons x l=>
  rw[Qp]at h ⊢
  refine⟨h.1,?_,h.2.2⟩
  cases p with
  |none=>rfl
  |some q'=>
   have:=hp q' rfl
   have h2:=h.2.1
   simp only[okR,decide_eq_true_eq]at h2 ⊢
   omega
theorem Yr:∀ (b:List (Int×Int)) (p0 p:Option Int) (lo hi:Int) (rest:List (Int×Int)),runsR p0 b=true->okR p lo=true->1<=lo->hi<=1099511627776->(∀ q,p=some q->q<=hi)->runsR (some hi) rest=true->runsR p (cutL b lo hi++rest)=true
 |[],p0,p,lo,hi,rest,_,hp,h1,h2,hq,hr=>by
  rw[cutL]
  split
  ·rename_i hle
   rw[List.singleton_append,Qp]
   exact⟨⟨h1,hle,h2⟩,hp,hr⟩
  ·exact qZi hr p hq
 |x :: b,p0,p,lo,hi,rest,h,hp,h1,h2,hq,hr=>by
  rw[Qp]at h
  obtain⟨hx,_,hb⟩:=h
  unfold runOk at hx
  rw[cutL]
  split
  ·exact Yr b _ p lo hi rest hb hp h1 h2 hq hr
  ·rename_i hc
   split
   ·rename_i hl
    rw[List.cons_append,Qp]
    exact⟨⟨h1,by show lo<=x.1-1;omega,by show x.1-1<=_;omega⟩,hp,Yr b _ _ (x.2+1) hi rest hb (by simp only[okR,decide_eq_true_eq];omega) (by omega) h2 (fun q e=>by cases e;omega) hr⟩
   ·refine Yr b _ p (x.2+1) hi rest hb ?_ (by omega) h2 hq hr
    cases p with
    |none=>rfl
    |some q=>simp only[okR,decide_eq_true_eq]at hp ⊢;omega
theorem Xd (b:List (Int×Int))(hb:runsR none b=true):∀ (a:List (Int×Int)) (p:Option Int),runsR p a=true->runsR p (Qz a b)=true
 |[],p,_=>by cases p<;>rfl
 |r :: a,p,h=>by
  rw[Qp]at h
  obtain⟨h1,h2,h3⟩:=h
  unfold runOk at h1
  show runsR p (cutL b r.1 r.2++Qz a b)=true
  refine Yr b none p r.1 r.2 _ hb h2 h1.1 h1.2.2 (fun q e=>?_) (Xd b hb a _ h3)
  subst e
  simp only[okR,decide_eq_true_eq]at h2
  omega
theorem Jy:∀ (b:List (Int×Int)) (p:Option Int) (lo hi n:Int),runsR p b=true->hasL (cutL b lo hi) n=(decide (lo<=n)&&decide (n<=hi)&&!hasL b n)
 |[],p,lo,hi,n,_=>by
  rw[cutL]
  split
  ·simp[hasL,inR]
  ·rw[Bool.eq_iff_iff];simp[hasL];omega
 |x :: b,p,lo,hi,n,h=>by
  rw[Qp]at h
  obtain⟨hx,_,hb⟩:=h
  unfold runOk at hx
  have hgt:=J9 b x.2 n hb
  have e1:=Jy b _ lo hi n hb
  have e2:=Jy b _ (x.2+1) hi n hb
  rw[cutL,ZV]
  have hin:inR x n=(decide (x.1<=n)&&decide (n<=x.2)):=rfl
  split
  ·rw[e1,hin]
   cases hbn:hasL b n<;>rw[Bool.eq_iff_iff]<;>simp<;>omega
  ·split
   ·rw[ZV,e2,Bool.eq_iff_iff]
    simp[inR]
    cases hbn:hasL b n<;>simp[hbn]at hgt ⊢<;>omega
   ·rw[e2,hin]
    cases hbn:hasL b n<;>simp[hbn]at hgt<;>rw[Bool.eq_iff_iff]<;>simp<;>omega
theorem Vy (a b:List (Int×Int))(n:Int):hasL (a++b) n=(hasL a n||hasL b n):=by unfold hasL;rw[List.any_append]
theorem X7 (b:List (Int×Int))(hb:runsR none b=true)(n:Int):∀ (a:List (Int×Int)),hasL (Qz a b) n=(hasL a n&&!hasL b n)
 |[]=>by simp[Qz,hasL]
 |r :: a=>by
  show hasL (cutL b r.1 r.2++Qz a b) n=_
  rw[Vy,Jy b none _ _ n hb,X7 b hb n a,ZV,Bool.and_or_distrib_right];rfl
theorem Ka {a b:List (Int×Int)}(ha:runsR none a=true)(hb:runsR none b=true):Qz a b=byL a b 2:=by
 have h:=ZS (a:=a) (b:=b) 2 (QP a none ha) (QP b none hb)
 refine YD _ _ none none (Xd b hb a none ha) h.1 fun n=>?_
 rw[X7 b hb n a,h.2 n]
 simp[inn]
theorem Vz (a b:List (Int×Int))(k:Nat):(Qz (a.take k) b).length<=(Qz a b).length:=by
 have h:Qz a b=Qz (a.take k) b++Qz (a.drop k) b:=by unfold Qz;rw[←List.flatMap_append,List.take_append_drop]
 rw[h];simp
theorem KC (a b:List (Int×Int))(va vb:Value)(w:World)(ha:SlP w w.heap.size 2 RuE va a)(hb:SlP w w.heap.size 2 RuE vb b)(hra:runsR none a=true)(hrb:runsR none b=true)(hN:(Qz a b).length<=900000) :
  Calls Tryz.prog 159 #[va,vb] w (RetO w 167 2 (fun _=>RuE) (Qz a b)):=by
 have HA:=hid ha
 have HB:=hid hb
 have HRA:=hid hra
 have HRB:=hid hrb
 obtain⟨A1,c1,rfl,a1,a2,a3⟩:=ha
 obtain⟨A2,c2,rfl,b1,b2,b3⟩:=hb
 unfold Big at a2 b2
 clear hra hrb
 go_enter Tryz.func159,Tryz.ntmps159
 go_wp2_with fail
 refine (X6 a b _ _ w HA.out HB.out).mono ?_
 rw[HRA.out,HRB.out]
 rintro e w1 ⟨rfl,hb1⟩
 have hs1:=hb1.size
 go_wp2_with fail
 go_loopw [5,16] (fun v i wr=>∃ k:Nat,k<=a.length/\i=.int .i64 k/\OwnP wr w1.heap.size 167 2 RuE v (Qz (a.take k) b)/\Below w1.heap.size w1 wr) (fun _ i _=>a.length-(intOf i).toNat)
 case atStart=>exact⟨0,Nat.zero_le _,rfl,OwnP.nil,Below.refl _ _⟩
 case round=>
  obtain⟨k,hk,rfl,hown,hbr⟩:=hrel
  have hsz:=hbr.size
  have hB0:Below w.heap.size w wr:=hb1.trans (hbr.mono hs1)
  by_cases hlt:k<a.length
  ·obtain⟨r,hr⟩:∃ x,a[k]?=some x:=⟨_,List.getElem?_eq_getElem hlt⟩
   obtain⟨bb,off,rfl,hbB,hc⟩:=a3 (by rintro rfl;simp at hlt)
   obtain⟨cs,⟨rfl,hok⟩,_,hu⟩:=hc k _ hr
   have e0:wr.cell? ⟨bb,off+k*2,none⟩=some (.int .i64 r.1):=(hB0.cell hbB).trans (hu 0 _ rfl)
   have e1:wr.cell? ⟨bb,off+k*2+1,none⟩=some (.int .i64 r.2):=(hB0.cell hbB).trans (hu 1 _ rfl)
   have hrok:=QP a none HRA.out r (List.mem_of_getElem? hr)
   unfold runOk at hrok
   have HX:=hid (Jx (b:=b) hr)
   have HLE:Hid ((Qz (a.take (k+1)) b).length<=900000):=Nat.le_trans (Vz a b _) hN
   clear hu hc a3 hr
   go_wp2_with fail
   obtain⟨wo,rfl⟩:∃ wo:World,wo=wr:=⟨_,rfl⟩
   go_loopw [5,22] (fun v i wq=>∃ (j:Nat) (os:List (Int×Int)) (lo:Int),j<=b.length/\i=.int .i64 j/\OwnP wq w1.heap.size 167 2 RuE v os/\Hid (os++cutL (b.drop j) lo r.2=Qz (a.take (k+1)) b)/\(∀ g,v.ownBlock=some g->g≠wo.heap.size) /\
     wq.heap[wo.heap.size]?=some (.cells #[.int .i64 lo,.int .i64 r.2] 167 (0,0))/\1<=lo/\lo<=1099511627777/\wo.heap.size<wq.heap.size/\Below w1.heap.size w1 wq) (fun _ i _=>b.length-(intOf i).toNat)
   case atStart=>exact⟨0,_,r.1,Nat.zero_le _,rfl,hown.alloc _,by unfold Hid;rw[HX.out];simp,fun g hg=>Nat.ne_of_lt (hown.lt g hg).2,Qf rfl,by omega,by omega,by simp,hbr.alloc (by omega) _⟩
   case round=>
    obtain⟨j,os,lo,hj,rfl,hown,HOS,hne,hg7,hl1,hl2,hsq,hbq⟩:=hrel
    have hBq:Below w.heap.size w wr:=hb1.trans (hbq.mono hs1)
    have d0:wr.cell? ⟨wo.heap.size,0,none⟩=some (.int .i64 lo):=Qa (i:=0) hg7
    have d1:wr.cell? ⟨wo.heap.size,1,none⟩=some (.int .i64 r.2):=Qa (i:=1) hg7
    have hf:=Qb (i:=0) hg7
    have hnq:wo.heap.size≠wr.heap.size:=by omega
    by_cases hlj:j<b.length
    ·obtain⟨x,hx⟩:∃ x,b[j]?=some x:=⟨_,List.getElem?_eq_getElem hlj⟩
     obtain⟨bb',off',rfl,hbB',hc⟩:=b3 (by rintro rfl;simp at hlj)
     obtain⟨cs,⟨rfl,hok'⟩,_,hu⟩:=hc j _ hx
     have f0:wr.cell? ⟨bb',off'+j*2,none⟩=some (.int .i64 x.1):=(hBq.cell hbB').trans (hu 0 _ rfl)
     have f1:wr.cell? ⟨bb',off'+j*2+1,none⟩=some (.int .i64 x.2):=(hBq.cell hbB').trans (hu 1 _ rfl)
     have hxok:=QP b none HRB.out x (List.mem_of_getElem? hx)
     unfold runOk at hxok
     have hcut:=Vx hx lo r.2
     clear hu hc b3 hx
     rcases t1:decide (x.2<lo)
     ·rcases t2:decide (r.2<x.1)
      ·have hno:¬(x.2<lo∨r.2<x.1):=by simp at t1 t2;omega
       rw[if_neg hno]at hcut
       rcases t3:decide (lo<x.1)
       ·have HO2:Hid (os++cutL (b.drop (j+1)) (x.2+1) r.2=Qz (a.take (k+1)) b):=by
         have h:=HOS.out
         rw[hcut,if_neg (by simpa using t3)]at h;exact h
        clear hcut
        go_wp2_with fail
        have hW:=Qe (i:=0) hg7 (.int .i64 (x.2+1))
        have hZ:(wr.setCell ⟨wo.heap.size,0,none⟩ (.int .i64 (x.2+1))).heap.size=wr.heap.size:=by simp[World.setCell]
        go_roundw
        case rel=>exact⟨j+1,os,x.2+1,by omega,by go_num,(hown.keep fun g hg=>Below.heap_setCell _ _ _ _ (hne g hg)).alloc _,HO2,hne,(Qh (by omega)).trans (by simpa using hW),by omega,by omega,by rw[World.size_alloc];omega,(hbq.setCell (p:=⟨wo.heap.size,0,none⟩) (by show w1.heap.size<=wo.heap.size;omega) _).alloc (by omega) _⟩
        case measure=>simp[intOf];omega
       ·have HO2:Hid ((os++[(lo,x.1-1)])++cutL (b.drop (j+1)) (x.2+1) r.2=Qz (a.take (k+1)) b):=by
         have h:=HOS.out
         rw[hcut,if_pos (by simpa using t3)]at h;unfold Hid;rw[←h];simp
        have hll:os.length+1<=900000:=by have h:=congrArg List.length HO2.out;have:=HLE.out;simp at h;omega
        have HRE:Hid (RuE (lo,x.1-1) [.int .i64 lo,.int .i64 (x.1-1)]):=⟨rfl,⟨by show _<=lo;omega,by show lo<=_;omega⟩,⟨by show _<=x.1-1;omega,by show x.1-1<=_;omega⟩⟩
        clear hcut
        go_wp2_with (at_builtin;go_loud (refine Z0 rfl (.tmp 43) (.tmp 50) _ rfl eiRun (by decide) (fun _ _ h=>h.one) rfl ((hown.alloc _).alloc _) rfl (SlP.one (x:=(lo,x.1-1)) HRE.out rfl _ (by rw[World.size_alloc])) (by simp;omega) (by simp[Big];omega) (by rw[World.size_alloc,World.size_alloc];omega) ?_);intro v1 w4 hown4 hgr hob;go_loud (have hb4:Hid (Below w1.heap.size ((wr.alloc (.cells #[.int .i64 x.1,.int .i64 x.2] 167)).alloc (.cells #[.int .i64 lo,.int .i64 (x.1-1)] 167)) w4):=((Below.refl w1.heap.size _).grown hgr (by rw[World.size_alloc,World.size_alloc];omega) fun g hg=>(hown.lt g hg).1);have hg4:w4.heap[wo.heap.size]?=some (.cells #[.int .i64 lo,.int .i64 r.2] 167 (0,0)):=(hgr.block _ (by rw[World.size_alloc,World.size_alloc];omega) (fun e=>hne _ e.symm rfl)).trans ((Qh (by rw[World.size_alloc];omega)).trans ((Qh hsq).trans hg7));have g0:w4.cell? ⟨wo.heap.size,0,none⟩=some (.int .i64 lo):=Qa (i:=0) hg4;have gf:=Qb (i:=0) hg4;have hg5:w4.heap[wr.heap.size]?=some (.cells #[.int .i64 x.1,.int .i64 x.2] 167 (0,0)):=(hgr.block _ (by rw[World.size_alloc,World.size_alloc];omega) (fun e=>by have:=(hown.lt _ e.symm).2;omega)).trans ((Qh (by rw[World.size_alloc];omega)).trans (Qf rfl));have g1:w4.cell? ⟨wr.heap.size,1,none⟩=some (.int .i64 x.2):=Qa (i:=1) hg5))
        have hs4:=hb4.out.size
        have hz4:=hgr.size
        rw[World.size_alloc,World.size_alloc]at hz4
        have hne4:∀ g,v1.ownBlock=some g->g≠wo.heap.size:=fun g hg=>by
         rcases hob with h|h
         ·exact hne g (h▸hg)
         ·rw[h,World.size_alloc,World.size_alloc]at hg;cases hg;omega
        have hW:=Qe (i:=0) hg4 (.int .i64 (x.2+1))
        go_roundw
        case rel=>exact⟨j+1,_,x.2+1,by omega,by go_num,hown4.keep fun g hg=>Below.heap_setCell _ _ _ _ (hne4 g hg),HO2,hne4,by simpa using hW,by omega,by omega,by simp[World.setCell];omega,(((hbq.alloc (by omega) _).alloc (by rw[World.size_alloc];omega) _).trans hb4.out).setCell (p:=⟨wo.heap.size,0,none⟩) (by show w1.heap.size<=wo.heap.size;omega) _⟩
        case measure=>simp[intOf];omega
      ·have HO2:Hid (os++cutL (b.drop (j+1)) lo r.2=Qz (a.take (k+1)) b):=by
        have h:=HOS.out
        rw[hcut,if_pos (.inr (by simpa using t2))]at h;exact h
       clear hcut
       go_wp2_with fail
       go_roundw
       case rel=>exact⟨j+1,os,lo,by omega,by go_num,hown.alloc _,HO2,hne,(Qh hsq).trans hg7,hl1,hl2,by simp;omega,hbq.alloc (by omega) _⟩
       case measure=>simp[intOf];omega
     ·have HO2:Hid (os++cutL (b.drop (j+1)) lo r.2=Qz (a.take (k+1)) b):=by
       have h:=HOS.out
       rw[hcut,if_pos (.inl (by simpa using t1))]at h;exact h
      clear hcut
      go_wp2_with fail
      go_roundw
      case rel=>exact⟨j+1,os,lo,by omega,by go_num,hown.alloc _,HO2,hne,(Qh hsq).trans hg7,hl1,hl2,by simp;omega,hbq.alloc (by omega) _⟩
      case measure=>simp[intOf];omega
    ·obtain rfl:j=b.length:=by omega
     have hend:=HOS.out
     rw[List.drop_length,cutL]at hend
     rcases t4:decide (lo<=r.2)
     ·rw[if_neg (by simpa using t4),List.append_nil]at hend
      have HEN:=hid hend
      clear hend
      go_wp2_with fail
      go_roundw
      case rel=>exact⟨k+1,by omega,by go_num,by rw[←HEN.out];exact hown,hbq⟩
      case measure=>simp[intOf];omega
     ·rw[if_pos (by simpa using t4)]at hend
      have HEN:=hid hend
      have hll:os.length+1<=900000:=by have h:=congrArg List.length hend;have:=HLE.out;simp at h;omega
      have HL:Hid (os.length + [(lo,r.2)].length<=Few):=by unfold Hid Few;simp;omega
      have HRE:Hid (RuE (lo,r.2) [.int .i64 lo,.int .i64 r.2]):=⟨rfl,⟨by show _<=lo;omega,by show lo<=_;omega⟩,⟨by show _<=r.2;omega,by show r.2<=_;omega⟩⟩
      clear hend
      go_wp2_with (at_builtin;go_loud (refine Qj rfl (.tmp 62) (.tmp 64) _ rfl eiRun (by decide) (by decide) (fun _ _ h=>h.one) rfl (hown.alloc _) rfl (SlP.one (x:=(lo,r.2)) HRE.out rfl _ rfl) HL.out (by rw[World.size_alloc];omega) ?_);intro v1 w4 hown4 hb4 _)
      go_roundw
      case rel=>exact⟨k+1,by omega,by go_num,by rw[←HEN.out];exact hown4,(hbq.alloc (by omega) _).trans hb4⟩
      case measure=>simp[intOf];omega
  ·obtain rfl:k=a.length:=by omega
   rw[List.take_of_length_le (Nat.le_refl _)]at hown
   go_wp2_with fail
   go_ret
   exact⟨_,rfl,hown.mono hs1,hB0⟩
theorem X8 (l:List Dt):(ctxOf l).length<=4*(l.length+1):=Z4 l 4
theorem X9 (a b:List Sp)(how:Int):(ctxBy a b how).length<=4*(2*a.length+2*b.length+1):=Q7 a b how 4
theorem KD:Jw 159 2:=
 ⟨enters_of Tryz.func159 (by kernel_rfl) rfl,fun a b va vb W ha hb hra hrb hN hN'=>Ka hra hrb▸KC a b va vb W ha hb hra hrb (by rw[Ka hra hrb];have:=Xs a b 2;omega)⟩
theorem KE (a b:List Sp)(va vb:Value)(w:World)(ha:SlP w w.heap.size 3 SpE va a)(hb:SlP w w.heap.size 3 SpE vb b)(hra:Qm a=true)(hrb:Qm b=true)(hN:a.length<=20000)(hN':b.length<=20000) :
  Calls Tryz.prog 116 #[va,vb] w (RetO w 45 3 (fun _=>SpE) (ctxBy a b 2)):=by
 go_enter Tryz.func116,Tryz.ntmps116
 go_wp2_with fail
 refine (Vw a b 2 _ KD va vb w ha hb hra hrb hN hN').mono ?_
 rintro e w1 ⟨v,rfl,h⟩
 go_wp2_with fail
 go_ret
 exact⟨v,rfl,h⟩
theorem Xe (c:List Sp)(vc:Value)(w:World)(h:SlP w w.heap.size 3 SpE vc c)(hN:c.length<=900000) :
  Calls Tryz.prog 115 #[vc] w fun e w'=>e=.returned (.bool (Qm c))/\Below w.heap.size w w':=by
 have HC:=hid h
 obtain⟨A,n,rfl,_⟩:=h
 go_enter Tryz.func115,Tryz.ntmps115
 go_wp2_with fail
 refine (ZJ c _ _ HC.out hN).mono ?_
 rintro e w1 ⟨vs,rfl,hsl,hb1⟩
 have hs1:=hb1.size
 obtain⟨A0,m0,g0,_⟩:=hsl 0 (by omega)
 obtain⟨A1,m1,g1,_⟩:=hsl 1 (by omega)
 obtain⟨A2,m2,g2,_⟩:=hsl 2 (by omega)
 obtain⟨A3,m3,g3,_⟩:=hsl 3 (by omega)
 simp only[g0,g1,g2,g3]
 clear hsl g0 g1 g2 g3
 go_wp2_with fail
 all_goals (go_ret;exact⟨rfl,hb1.alloc hs1 _⟩)
def cLeq (a b:List Sp):Bool:=Qm a&&(Qm b&&decide ((ctxBy a b 2).length=0))
theorem qQi (a b:List Sp)(va vb:Value)(w:World)(ha:SlP w w.heap.size 3 SpE va a)(hb:SlP w w.heap.size 3 SpE vb b)(hN:a.length<=20000)(hN':b.length<=20000) :
  Calls Tryz.prog 69 #[va,vb] w fun e w'=>e=.returned (.bool (cLeq a b))/\Below w.heap.size w w':=by
 have HA:=hid ha
 have HB:=hid hb
 obtain⟨A1,c1,rfl,_⟩:=ha
 obtain⟨A2,c2,rfl,_⟩:=hb
 go_enter Tryz.func69,Tryz.ntmps69
 go_wp2_with fail
 refine (Xe a _ w HA.out (by omega)).mono ?_
 rintro e w1 ⟨rfl,hb1⟩
 have hs1:=hb1.size
 cases ra:Qm a
 ·have HR:Hid (cLeq a b=false):=by unfold Hid cLeq;rw[ra];rfl
  clear ra
  go_wp2_with fail
  go_ret
  exact⟨Qd HR.out.symm,hb1⟩
 have RA:=hid ra
 go_wp2_with fail
 refine (Xe b _ w1 (HB.out.imp hb1 hs1 fun _ _ _ h=>h) (by omega)).mono ?_
 rintro e w2 ⟨rfl,hb2⟩
 have hs2:=hb2.size
 have hB2:Below w.heap.size w w2:=hb1.trans (hb2.mono hs1)
 cases rb:Qm b
 ·have HR:Hid (cLeq a b=false):=by unfold Hid cLeq;rw[ra,rb];rfl
  clear ra rb
  go_wp2_with fail
  go_ret
  exact⟨Qd HR.out.symm,hB2⟩
 have RB:=hid rb
 have HR:Hid (cLeq a b=decide ((ctxBy a b 2).length=0)):=by unfold Hid cLeq;rw[ra,rb];rfl
 clear ra rb
 go_wp2_with fail
 refine (KE a b _ _ w2 (HA.out.imp hB2 (by omega) fun _ _ _ h=>h) (HB.out.imp hB2 (by omega) fun _ _ _ h=>h) RA.out RB.out hN hN').mono ?_
 rintro e w3 ⟨v3,rfl,ho3,hb3⟩
 obtain⟨A5,c5,rfl⟩:=ho3.shape
 have hl:=X9 a b 2
 clear ho3
 generalize ctxBy a b 2=C at *
 rcases hz:decide (C.length=0)
 ·have hz2:C.length≠0:=by simpa using hz
  have HZ:=hid hz
  clear hz
  go_wp2_with fail
  go_ret
  exact⟨Qd (by rw[HR.out,HZ.out];simpa using hz2),hB2.trans (hb3.mono (by omega))⟩
 ·have hz2:C.length=0:=by simpa using hz
  have HZ:=hid hz
  clear hz
  go_wp2_with fail
  go_ret
  exact⟨Qd (by rw[HR.out,HZ.out]),hB2.trans (hb3.mono (by omega))⟩
def caR (t:Tr)(c:List Sp):Bool:=t.right 5&&cLeq (ctxOf t.dots) c
theorem Qq (t:Tr)(c:List Sp)(ve vk vc:Value)(w:World)(h:t.rd w w.heap.size ve vk)(hc:SlP w w.heap.size 3 SpE vc c)(hN:t.sz<=4000)(hN':c.length<=20000) :
  Calls Tryz.prog 34 #[.agg #[ve,vk,vc]] w fun e w'=>e=.returned (.bool (caR t c))/\Below w.heap.size w w':=by
 have HC:Hid (∀ w',Below w.heap.size w w'->t.rd w' w'.heap.size ve vk):=fun w' hb=>Qi hb hb.size _ _ _ h
 have HS:Hid (∀ w',Below w.heap.size w w'->SlP w' w'.heap.size 3 SpE vc c):=fun w' hb=>hc.imp hb hb.size fun _ _ _ h=>h
 have hd1:=X8 t.dots
 have hd2:=Yl t
 obtain⟨A3,n3,A4,n4,rfl,rfl⟩:=Qk h
 obtain⟨A5,n5,rfl,_⟩:=hc
 clear h
 have hb0:Below w.heap.size w (w.alloc (.cells #[.slice A3 t.es.length n3,.slice A4 t.ks.length n4,.slice A5 c.length n5] 29)):=(Below.refl _ w).alloc (Nat.le_refl _) _
 go_enter Tryz.func34,Tryz.ntmps34
 go_wp2_with fail
 refine (Vr t _ _ _ (HC.out _ hb0) (by omega)).mono ?_
 rintro e w1 ⟨v1,n1,rfl,hn1,ho1,hb1⟩
 have hs1:=hb1.size
 simp only[World.size_alloc]at hs1
 have hB1:Below w.heap.size w w1:=hb0.trans (hb1.mono (by simp))
 have b2:w1.cell? ⟨w.heap.size,2,none⟩=some (.slice A5 c.length n5):=by rw[hb1.cell (p:=⟨w.heap.size,2,none⟩) (by simp)];simp
 cases hr:t.right 5
 ·rw[hr]at hn1 ho1
  simp only[Bool.false_eq_true,if_false]at hn1 ho1
  subst hn1
  have HR:Hid (caR t c=false):=by unfold Hid caR;rw[hr];rfl
  obtain⟨A6,n6,rfl⟩:=ho1.shape
  clear hr ho1
  go_wp2_with fail
  go_ret
  exact⟨Qd HR.out.symm,hB1⟩
 ·rw[hr]at hn1 ho1
  simp only[if_true]at hn1 ho1
  subst hn1
  have HR:Hid (caR t c=cLeq (ctxOf t.dots) c):=by unfold Hid caR;rw[hr];rfl
  have HSL:=hid (ho1.sl (by unfold Big;omega))
  obtain⟨A6,n6,rfl⟩:=ho1.shape
  clear hr ho1
  go_wp2_with fail
  refine (qQi (ctxOf t.dots) c _ _ w1 HSL.out (HS.out _ hB1) (by omega) hN').mono ?_
  rintro e w2 ⟨rfl,hb2⟩
  go_wp2_with fail
  go_ret
  exact⟨Qd HR.out.symm,hB1.trans (hb2.mono (by omega))⟩
theorem Jz {l:List Dt}(h:∀ d∈l,d.right=true):SpsOk (ctxOf l):=fun s hs=>by
 have ha:=Zg h
 have hd:=ZT (fun i=>ofL (numsL l i)) 4 s hs
 unfold ctxOf Zu at hs
 obtain⟨i,_,hs⟩:=List.mem_flatMap.1 hs
 obtain⟨r,hr,rfl⟩:=List.mem_map.1 hs
 have:=XB _ none (ZQ (Ju h i)).1 r hr
 unfold runOk at this
 exact⟨by show 0<=r.1;omega,by show r.1<=_;omega,by show 0<=r.2;omega,by show r.2<=_;omega⟩
theorem Ja (l:List (Int×Int))(v:Value)(w:World)(h:SlP w w.heap.size 2 RuE v l) :
  Calls Tryz.prog 122 #[v] w fun e w'=>e=.returned (.bool (runsR none l))/\Below w.heap.size w w':=by
 obtain⟨A,n,rfl,b1,b2,b3⟩:=h
 unfold Big at b2
 go_enter Tryz.func122,Tryz.ntmps122
 go_wp2_with fail
 go_loopw [6] (fun i wr=>∃ k:Nat,k<=l.length/\i=.int .i64 k/\Hid (runsR (prevR l k) (l.drop k)=runsR none l)/\Hid (∀ h,prevR l k=some h->1<=h/\h<=1099511627776)/\Below w.heap.size w wr) (fun i _=>l.length-(intOf i).toNat)
 case atStart=>exact⟨0,Nat.zero_le _,rfl,rfl,fun _ h=>by simp[prevR]at h,Below.refl _ _⟩
 case round=>
  obtain⟨k,hk,rfl,hrel,hpr,hb⟩:=hrel
  have hsz:=hb.size
  by_cases hlt:k<l.length
  ·obtain⟨r,hx⟩:∃ x,l[k]?=some x:=⟨_,List.getElem?_eq_getElem hlt⟩
   obtain⟨b,off,rfl,hbB,hc⟩:=b3 (by rintro rfl;simp at hlt)
   obtain⟨cs,⟨rfl,hok⟩,_,hu⟩:=hc k _ hx
   have hi1:=hok.1
   unfold I64 at hi1
   have e0:wr.cell? ⟨b,off+k*2,none⟩=some (.int .i64 r.1):=(hb.cell hbB).trans (hu 0 _ rfl)
   have e1:wr.cell? ⟨b,off+k*2+1,none⟩=some (.int .i64 r.2):=(hb.cell hbB).trans (hu 1 _ rfl)
   have HR:Hid (runsR none l=(numB r.1&&numB r.2&&decide (r.1<=r.2)&&okR (prevR l k) r.1&&runsR (prevR l (k+1)) (l.drop (k+1)))):=by
    have:=hrel.out
    rw[QA hx,Z1]at this
    rw[Zo hx];exact this.symm
   have HPS:=hid (Zo hx)
   have f0:=Qg (B:=wr.heap.size) (w:=wr) (b:=b) (o:=off+k*2) (v:=.int .i64 r.1) e0 (by omega)
   have f1:=Qg (B:=wr.heap.size) (w:=wr) (b:=b) (o:=off+k*2+1) (v:=.int .i64 r.2) e1 (by omega)
   have hprev:∃ q:Int,(0<k->prevR l k=some q/\(∀ p:Far wr.heap.size wr,p.w'.cell? ⟨b,off+(k-1)*2+1,none⟩=some (.int .i64 q))):=by
    by_cases h0:0<k
    ·obtain⟨y,hy⟩:∃ y,l[k-1]?=some y:=⟨_,List.getElem?_eq_getElem (by omega)⟩
     obtain⟨cs,⟨rfl,_⟩,_,hu⟩:=hc (k-1) _ hy
     refine⟨y.2,fun _=>⟨by rw[prevR,if_neg (by omega),hy];rfl,fun p=>Qg ?_ (by omega) p⟩⟩
     exact (hb.cell hbB).trans (hu 1 _ rfl)
    ·exact⟨0,fun h=>absurd h h0⟩
   obtain⟨q,hprev⟩:=hprev
   go_upto_region 4 with (fail)
   clear hrel hu hc b3 hx e0 e1 hok
   rcases t1:decide (r.1<1)
   case true=>
    have h1:Hid (numB r.1=false):=by have:=of_decide_eq_true t1;unfold Hid;simp[numB];omega
    refine Qc wr.heap.size (by kernel_rfl) (by kernel_rfl) ?_
    repeat (go_big_quiet_step (fail))
    refine wpQuiet_nil ?_
    intro wq hbq
    have hbw:Below w.heap.size w wq:=hb.trans (hbq.mono (by omega))
    go_wp2_with fail
    go_ret
    refine⟨Qd ?_,hbw⟩
    rw[HR.out]
    rw[h1.out];simp
   rcases t2:decide (1099511627776<r.2)
   case true=>
    have h2:Hid (numB r.2=false):=by have:=of_decide_eq_true t2;unfold Hid;simp[numB];omega
    refine Qc wr.heap.size (by kernel_rfl) (by kernel_rfl) ?_
    repeat (go_big_quiet_step (fail))
    refine wpQuiet_nil ?_
    intro wq hbq
    have hbw:Below w.heap.size w wq:=hb.trans (hbq.mono (by omega))
    go_wp2_with fail
    go_ret
    refine⟨Qd ?_,hbw⟩
    rw[HR.out]
    rw[h2.out];simp
   rcases t3:decide (r.2<r.1)
   case true=>
    have h3:Hid (decide (r.1<=r.2)=false):=by have:=of_decide_eq_true t3;unfold Hid;simp;omega
    refine Qc wr.heap.size (by kernel_rfl) (by kernel_rfl) ?_
    repeat (go_big_quiet_step (fail))
    refine wpQuiet_nil ?_
    intro wq hbq
    have hbw:Below w.heap.size w wq:=hb.trans (hbq.mono (by omega))
    go_wp2_with fail
    go_ret
    refine⟨Qd ?_,hbw⟩
    rw[HR.out]
    rw[h3.out];simp
   have g1:=of_decide_eq_false t1
   have g2:=of_decide_eq_false t2
   have g3:=of_decide_eq_false t3
   have h3:Hid (decide (r.1<=r.2)=true):=by unfold Hid;simp;omega
   have h1:numB r.1=true:=by simp[numB];omega
   have h2:numB r.2=true:=by simp[numB];omega
   have HN:Hid (∀ h,prevR l (k+1)=some h->1<=h/\h<=1099511627776):=fun h hh=>by rw[HPS.out]at hh;cases hh;omega
   rcases Nat.eq_zero_or_pos k with h0|h0
   ·have t0:decide ((0:Int)<(k:Int))=false:=by simp;omega
    have t0':decide (0<k)=false:=by simp;omega
    have hpk:Hid (okR (prevR l k) r.1=true):=by rw[show prevR l k=none by (rw[h0];rfl)];rfl
    clear h0 hprev
    refine Qc wr.heap.size (by kernel_rfl) (by kernel_rfl) ?_
    repeat (go_big_quiet_step (fail))
    refine wpQuiet_nil ?_
    intro wq hbq
    have hbw:Below w.heap.size w wq:=hb.trans (hbq.mono (by omega))
    go_wp2_with fail
    go_roundw
    case rel=>
     refine⟨k+1,by omega,by go_num,?_,HN.out,hbw⟩
     show _=_
     rw[HR.out,h1,h2]
     rw[h3.out,hpk.out];simp
    case measure=>simp[intOf];omega
   ·obtain⟨hq,q0⟩:=hprev h0
    have hqb:=hpr.out q hq
    have hwq:IntKind.i64.wrap (r.1-q)=r.1-q:=IntWalk.i64_in _ (by omega)
    have hwk:IntKind.i64.wrap ((k:Int)-1)=(k:Int)-1:=IntWalk.i64_in _ (by omega)
    rcases t5:decide (r.1-q<2)
    ·have hpk:Hid (okR (prevR l k) r.1=true):=by rw[hq];have:=of_decide_eq_false t5;unfold Hid;simp[okR];omega
     clear hprev hq hqb
     refine Qc wr.heap.size (by kernel_rfl) (by kernel_rfl) ?_
     repeat (go_big_quiet_step (fail))
     refine wpQuiet_nil ?_
     intro wq hbq
     have hbw:Below w.heap.size w wq:=hb.trans (hbq.mono (by omega))
     go_wp2_with fail
     go_roundw
     case rel=>
      refine⟨k+1,by omega,by go_num,?_,HN.out,hbw⟩
      show _=_
      rw[HR.out,h1,h2]
      rw[h3.out,hpk.out];simp
     case measure=>simp[intOf];omega
    ·have hpk:Hid (okR (prevR l k) r.1=false):=by rw[hq];have:=of_decide_eq_true t5;unfold Hid;simp[okR];omega
     clear hprev hq hqb
     refine Qc wr.heap.size (by kernel_rfl) (by kernel_rfl) ?_
     repeat (go_big_quiet_step (fail))
     refine wpQuiet_nil ?_
     intro wq hbq
     have hbw:Below w.heap.size w wq:=hb.trans (hbq.mono (by omega))
     go_wp2_with fail
     go_ret
     refine⟨Qd ?_,hbw⟩
     rw[HR.out]
     rw[h1,h2,h3.out,hpk.out];simp
  ·obtain rfl:k=l.length:=by omega
   have hr:=hrel.out
   go_wp2_with fail
   go_ret
   exact⟨Qd (by rw[←hr];simp[runsR]),hb⟩
theorem Q2 (c:List Sp)(vc:Value)(w:World)(h:SlP w w.heap.size 3 SpE vc c)(hN:c.length<=900000) :
  Calls Tryz.prog 76 #[vc] w fun e w'=>e=.returned (.bool (Qm c))/\Below w.heap.size w w':=by
 have HS:=hid h
 obtain⟨A,n,rfl,b1,b2,b3⟩:=h
 unfold Big at b2
 go_enter Tryz.func76,Tryz.ntmps76
 go_wp2_with fail
 go_loopw [7] (fun i wr=>∃ (k:Nat) (L:Int),k<=c.length/\i=.int .i64 k/\Hid (dcsOk L (c.drop k)=dcsOk 0 c)/\Hid (∀ y,0<k->c[k-1]?=some y->y.dc=L)/\Hid (k=0->L=0)/\0<=L/\Below w.heap.size w wr) (fun i _=>c.length-(intOf i).toNat)
 case atStart=>exact⟨0,0,Nat.zero_le _,rfl,rfl,fun _ h=>absurd h (Nat.not_lt_zero _),fun _=>rfl,Int.le_refl _,Below.refl _ _⟩
 case round=>
  obtain⟨k,L,hk,rfl,hrel,hpr,hz0,hL,hb⟩:=hrel
  have hsz:=hb.size
  by_cases hlt:k<c.length
  ·obtain⟨x,hx⟩:∃ x,c[k]?=some x:=⟨_,List.getElem?_eq_getElem hlt⟩
   obtain⟨b,off,rfl,hbB,hc⟩:=b3 (by rintro rfl;simp at hlt)
   obtain⟨cs,⟨rfl,hok⟩,_,hu⟩:=hc k _ hx
   have e0:wr.cell? ⟨b,off+k*3,none⟩=some (.int .i64 x.dc):=(hb.cell hbB).trans (hu 0 _ rfl)
   have HR:Hid (dcsOk 0 c=(decide (L<=x.dc)&&decide (x.dc<4)&&dcsOk x.dc (c.drop (k+1)))):=by
    have:=hrel.out
    rw[QA hx,dcsOk]at this
    exact this.symm
   have HQ:Hid (∀ y,0<k+1->c[k+1-1]?=some y->y.dc=x.dc):=fun y _ hy=>by
    rw[Nat.add_sub_cancel,hx]at hy;cases hy;rfl
   have f0:=Qg (B:=wr.heap.size) (w:=wr) (b:=b) (o:=off+k*3) (v:=.int .i64 x.dc) e0 (by omega)
   have hprev:0<k->(∀ p:Far wr.heap.size wr,p.w'.cell? ⟨b,off+(k-1)*3,none⟩=some (.int .i64 L)):=fun h0=>by
    obtain⟨y,hy⟩:∃ y,c[k-1]?=some y:=⟨_,List.getElem?_eq_getElem (by omega)⟩
    obtain⟨cs,⟨rfl,_⟩,_,hu⟩:=hc (k-1) _ hy
    intro p
    refine Qg ?_ (by omega) p
    rw[←hpr.out y h0 hy]
    exact (hb.cell hbB).trans (hu 0 _ rfl)
   go_upto_region 4 with (fail)
   clear hrel hu hc b3 hx e0 hok hpr
   rcases t1:decide (x.dc<0)
   case true=>
    have HF:Hid (Qm c=false):=by
     have:=of_decide_eq_true t1
     unfold Hid Qm;rw[HR.out,decide_eq_false (show ¬L<=x.dc by omega)];rfl
    refine Qc wr.heap.size (by kernel_rfl) (by kernel_rfl) ?_
    repeat (go_big_quiet_step (fail))
    refine wpQuiet_nil ?_
    intro wq hbq
    have hbw:Below w.heap.size w wq:=hb.trans (hbq.mono (by omega))
    go_wp2_with fail
    go_ret
    exact⟨Qd HF.out.symm,hbw⟩
   rcases t2:decide (4<=x.dc)
   case true=>
    have HF:Hid (Qm c=false):=by
     have:=of_decide_eq_true t2
     unfold Hid Qm;rw[HR.out,decide_eq_false (show ¬x.dc<4 by omega)];simp
    refine Qc wr.heap.size (by kernel_rfl) (by kernel_rfl) ?_
    repeat (go_big_quiet_step (fail))
    refine wpQuiet_nil ?_
    intro wq hbq
    have hbw:Below w.heap.size w wq:=hb.trans (hbq.mono (by omega))
    go_wp2_with fail
    go_ret
    exact⟨Qd HF.out.symm,hbw⟩
   have g1:0<=x.dc:=by have:=of_decide_eq_false t1;omega
   have g2:=of_decide_eq_false t2
   rcases Nat.eq_zero_or_pos k with h0|h0
   ·have t0:decide ((0:Int)<(k:Int))=false:=by simp;omega
    have t0':decide (0<k)=false:=by simp;omega
    have HG:Hid (dcsOk x.dc (c.drop (k+1))=dcsOk 0 c):=by
     unfold Hid;rw[HR.out,decide_eq_true (show L<=x.dc by have:=hz0.out h0;omega),decide_eq_true (show x.dc<4 by omega)];rfl
    clear h0 hprev
    refine Qc wr.heap.size (by kernel_rfl) (by kernel_rfl) ?_
    repeat (go_big_quiet_step (fail))
    refine wpQuiet_nil ?_
    intro wq hbq
    have hbw:Below w.heap.size w wq:=hb.trans (hbq.mono (by omega))
    go_wp2_with fail
    go_roundw
    case rel=>exact⟨k+1,x.dc,by omega,by go_num,HG.out,HQ.out,fun h=>absurd h (Nat.succ_ne_zero k),g1,hbw⟩
    case measure=>simp[intOf];omega
   ·have q0:=hprev h0
    have hwk:IntKind.i64.wrap ((k:Int)-1)=(k:Int)-1:=IntWalk.i64_in _ (by omega)
    clear hprev
    rcases t5:decide (x.dc<L)
    ·have HG:Hid (dcsOk x.dc (c.drop (k+1))=dcsOk 0 c):=by
      have:=of_decide_eq_false t5
      unfold Hid;rw[HR.out,decide_eq_true (show L<=x.dc by omega),decide_eq_true (show x.dc<4 by omega)];rfl
     refine Qc wr.heap.size (by kernel_rfl) (by kernel_rfl) ?_
     repeat (go_big_quiet_step (fail))
     refine wpQuiet_nil ?_
     intro wq hbq
     have hbw:Below w.heap.size w wq:=hb.trans (hbq.mono (by omega))
     go_wp2_with fail
     go_roundw
     case rel=>exact⟨k+1,x.dc,by omega,by go_num,HG.out,HQ.out,fun h=>absurd h (Nat.succ_ne_zero k),g1,hbw⟩
     case measure=>simp[intOf];omega
    ·have HF:Hid (Qm c=false):=by
      have:=of_decide_eq_true t5
      unfold Hid Qm;rw[HR.out,decide_eq_false (show ¬L<=x.dc by omega)];rfl
     refine Qc wr.heap.size (by kernel_rfl) (by kernel_rfl) ?_
     repeat (go_big_quiet_step (fail))
     refine wpQuiet_nil ?_
     intro wq hbq
     have hbw:Below w.heap.size w wq:=hb.trans (hbq.mono (by omega))
     go_wp2_with fail
     go_ret
     exact⟨Qd HF.out.symm,hbw⟩
  ·obtain rfl:k=c.length:=by omega
   have HD:Hid (dcsOk 0 c=true):=by
    have:=hrel.out
    rw[List.drop_of_length_le (Nat.le_refl _),dcsOk]at this
    exact this.symm
   clear hrel hpr hz0 b3
   go_wp2_with fail
   obtain⟨wo,rfl⟩:∃ wo:World,wo=wr:=⟨_,rfl⟩
   go_loopw [43] (fun i wr=>∃ k:Nat,k<=4/\i=.int .i64 k/\Hid (((List.range k).all fun (dc:Nat)=>runsR none (partL c dc))=true)/\Below w.heap.size w wr) (fun i _=>4-(intOf i).toNat)
   case atStart=>exact⟨0,Nat.zero_le _,rfl,rfl,hb⟩
   case round=>
    clear hb hsz
    obtain⟨k,hk,rfl,hrel,hb⟩:=hrel
    have hsz:=hb.size
    by_cases hlt:k<4
    ·have HA:Hid (((List.range (k+1)).all fun (dc:Nat)=>runsR none (partL c dc))=runsR none (partL c k)):=by
      unfold Hid;rw[List.range_succ,List.all_append,hrel.out];simp
     have hpl:=Qs c k
     go_wp2_with fail
     refine (ZB c k _ wr (HS.out.imp hb hsz fun _ _ _ h=>h) (by omega)).mono ?_
     rintro e w1 ⟨v1,rfl,ho1,hb1⟩
     have hs1:=hb1.size
     have HO1:=hid (ho1.sl (by unfold Big;omega))
     clear ho1
     go_wp2_with fail
     refine (Ja (partL c k) _ w1 HO1.out).mono ?_
     rintro e w2 ⟨rfl,hb2⟩
     have hB2:Below w.heap.size w w2:=(hb.trans (hb1.mono hsz)).trans (hb2.mono (by omega))
     clear hb1 hb2
     rcases hq:runsR none (partL c k)
     ·have HF:Hid (Qm c=false):=by
       unfold Hid Qm
       rw[HD.out,Bool.true_and]
       refine List.all_eq_false.2 ⟨k,List.mem_range.2 hlt,?_⟩
       rw[hq];simp
      go_wp2_with fail
      go_ret
      exact⟨Qd HF.out.symm,hB2⟩
     ·have HA2:Hid (((List.range (k+1)).all fun (dc:Nat)=>runsR none (partL c dc))=true):=by unfold Hid;rw[HA.out,hq]
      go_wp2_with fail
      go_roundw
      case rel=>exact⟨k+1,by omega,by go_num,HA2.out,hB2⟩
      case measure=>simp[intOf];omega
    ·obtain rfl:k=4:=by omega
     have HT:Hid (Qm c=true):=by unfold Hid Qm;rw[HD.out,hrel.out];rfl
     go_wp2_with fail
     go_ret
     exact⟨Qd HT.out.symm,hb⟩
def rLeq (a b:List Sp):Bool:=decide ((ctxBy a b 2).length=0)
theorem Xf (a b:List Sp)(va vb:Value)(w:World)(ha:SlP w w.heap.size 3 SpE va a)(hb:SlP w w.heap.size 3 SpE vb b)(hN:a.length<=50000)(hN':b.length<=50000)(hR:SpsOk a)(hR':SpsOk b) :
  Calls Tryz.prog 77 #[va,vb] w fun e w'=>e=.returned (.bool (rLeq a b))/\Below w.heap.size w w':=by
 go_enter Tryz.func77,Tryz.ntmps77
 go_wp2_with fail
 refine (Vd a b 2 _ _ w ha hb hN hN' hR hR' (by simp)).mono ?_
 rintro e w3 ⟨v3,rfl,ho3,hb3⟩
 obtain⟨A5,c5,rfl⟩:=ho3.shape
 have HR0:Hid (rLeq a b=decide ((ctxBy a b 2).length=0)):=rfl
 have hl:=X9 a b 2
 clear ho3
 generalize ctxBy a b 2=C at *
 rcases hz:decide (C.length=0)
 ·have hz2:C.length≠0:=by simpa using hz
  have HZ:=hid hz
  clear hz
  go_wp2_with fail
  go_ret
  exact⟨Qd (by rw[HR0.out,HZ.out];simpa using hz2),hb3⟩
 ·have hz2:C.length=0:=by simpa using hz
  have HZ:=hid hz
  clear hz
  go_wp2_with fail
  go_ret
  exact⟨Qd (by rw[HR0.out,HZ.out]),hb3⟩
theorem JA {c:List Sp}(h:Qm c=true):SpsOk c:=fun s hs=>by
 have hd:=ZU c 0 (by unfold Qm at h;simp at h;exact h.1) s hs
 obtain⟨i,hi⟩:∃ i:Nat,(i:Int)=s.dc:=⟨s.dc.toNat,by omega⟩
 have hr:=QT h (i:=i) (by omega)
 have hm:(s.fr,s.hi)∈partL c (i:Int):=by
  unfold partL
  exact List.mem_map.2 ⟨s,List.mem_filter.2 ⟨hs,by simp[hi]⟩,rfl⟩
 have:=XB _ none hr _ hm
 unfold runOk at this
 exact⟨by show 0<=s.fr;simp at this;omega,by show s.fr<=_;simp at this;omega,by show 0<=s.hi;simp at this;omega,by show s.hi<=_;simp at this;omega⟩
def r9R (t:Tr)(c:List Sp):Bool:=t.right 5&&(Qm c&&rLeq (ctxOf t.dots) c)
theorem qQ4 (t:Tr)(c:List Sp):caR t c=r9R t c:=by
 unfold caR r9R cLeq rLeq
 cases h:t.right 5
 ·rfl
 ·rw[Zg (Zq t 5 h)];rfl
theorem Jb (t:Tr)(c:List Sp)(ve vk vc:Value)(w:World)(h:t.rd w w.heap.size ve vk)(hc:SlP w w.heap.size 3 SpE vc c)(hN:t.sz<=4000)(hN':c.length<=20000) :
  Calls Tryz.prog 38 #[.agg #[ve,vk,vc]] w fun e w'=>e=.returned (.bool (r9R t c))/\Below w.heap.size w w':=by
 have HC:Hid (∀ w',Below w.heap.size w w'->t.rd w' w'.heap.size ve vk):=fun w' hb=>Qi hb hb.size _ _ _ h
 have HS:Hid (∀ w',Below w.heap.size w w'->SlP w' w'.heap.size 3 SpE vc c):=fun w' hb=>hc.imp hb hb.size fun _ _ _ h=>h
 have hd1:=X8 t.dots
 have hd2:=Yl t
 have hcl:(ctxOf t.dots).length<=50000:=by omega
 have HBL:Hid ((ctxOf t.dots).length<=Big):=by unfold Hid Big;omega
 obtain⟨A3,n3,A4,n4,rfl,rfl⟩:=Qk h
 obtain⟨A5,n5,rfl,_⟩:=hc
 clear h
 have hb0:Below w.heap.size w (w.alloc (.cells #[.slice A3 t.es.length n3,.slice A4 t.ks.length n4,.slice A5 c.length n5] 29)):=(Below.refl _ w).alloc (Nat.le_refl _) _
 have HB:Hid (∀ w',Below (w.heap.size+1) (w.alloc (.cells #[.slice A3 t.es.length n3,.slice A4 t.ks.length n4,.slice A5 c.length n5] 29)) w'->Below w.heap.size w w'/\t.rd w' w'.heap.size (.slice A3 t.es.length n3) (.slice A4 t.ks.length n4)/\SlP w' w'.heap.size 3 SpE (.slice A5 c.length n5) c/\(w'.cell? ⟨w.heap.size,0,none⟩=some (.slice A3 t.es.length n3)/\w'.cell? ⟨w.heap.size,1,none⟩=some (.slice A4 t.ks.length n4)/\w'.cell? ⟨w.heap.size,2,none⟩=some (.slice A5 c.length n5))):=fun w' hb=>by
  have hB:=hb0.trans (hb.mono (by omega))
  refine⟨hB,HC.out _ hB,HS.out _ hB,?_,?_,?_⟩
  ·rw[hb.cell (p:=⟨w.heap.size,0,none⟩) (by simp),World.cell?_alloc_new];rfl
  ·rw[hb.cell (p:=⟨w.heap.size,1,none⟩) (by simp),World.cell?_alloc_new];rfl
  ·rw[hb.cell (p:=⟨w.heap.size,2,none⟩) (by simp),World.cell?_alloc_new];rfl
 go_enter Tryz.func38,Tryz.ntmps38
 cases r1:t.right 5
 ·have HR1:=hid r1
  have HF:Hid (r9R t c=false):=by unfold Hid r9R;rw[r1];rfl
  clear r1
  have f0:=Qg (B:=w.heap.size+1) (w:=w.alloc (.cells #[.slice A3 t.es.length n3,.slice A4 t.ks.length n4,.slice A5 c.length n5] 29)) (b:=w.heap.size) (o:=0) (v:=.slice A3 t.es.length n3) (by simp) (by omega)
  have f1:=Qg (B:=w.heap.size+1) (w:=w.alloc (.cells #[.slice A3 t.es.length n3,.slice A4 t.ks.length n4,.slice A5 c.length n5] 29)) (b:=w.heap.size) (o:=1) (v:=.slice A4 t.ks.length n4) (by simp) (by omega)
  have f2:=Qg (B:=w.heap.size+1) (w:=w.alloc (.cells #[.slice A3 t.es.length n3,.slice A4 t.ks.length n4,.slice A5 c.length n5] 29)) (b:=w.heap.size) (o:=2) (v:=.slice A5 c.length n5) (by simp) (by omega)
  go_upto_region 1 with (fail)
  refine Qc (w.heap.size+1) (by kernel_rfl) (by kernel_rfl) ?_
  repeat (go_big_quiet_step (first|(go_at_call 48;exact Calls.far_all (by simp) (fun w' hb'=>HR1.out▸Q1 t w' _ _ (HB.out w' hb').2.1))|(go_at_call 76;exact Calls.far_all (by simp) (fun w' hb'=>HR2.out▸Q2 c _ w' (HB.out w' hb').2.2.1 (by omega)))))
  refine wpQuiet_nil ?_
  intro wq hbq
  go_wp2_with fail
  go_ret
  exact⟨Qd HF.out.symm,(HB.out _ hbq).1⟩
 have HR1:=hid r1
 cases r2:Qm c
 ·have HR2:=hid r2
  have HF:Hid (r9R t c=false):=by unfold Hid r9R;rw[r1,r2];rfl
  clear r1 r2
  have f0:=Qg (B:=w.heap.size+1) (w:=w.alloc (.cells #[.slice A3 t.es.length n3,.slice A4 t.ks.length n4,.slice A5 c.length n5] 29)) (b:=w.heap.size) (o:=0) (v:=.slice A3 t.es.length n3) (by simp) (by omega)
  have f1:=Qg (B:=w.heap.size+1) (w:=w.alloc (.cells #[.slice A3 t.es.length n3,.slice A4 t.ks.length n4,.slice A5 c.length n5] 29)) (b:=w.heap.size) (o:=1) (v:=.slice A4 t.ks.length n4) (by simp) (by omega)
  have f2:=Qg (B:=w.heap.size+1) (w:=w.alloc (.cells #[.slice A3 t.es.length n3,.slice A4 t.ks.length n4,.slice A5 c.length n5] 29)) (b:=w.heap.size) (o:=2) (v:=.slice A5 c.length n5) (by simp) (by omega)
  go_upto_region 1 with (fail)
  refine Qc (w.heap.size+1) (by kernel_rfl) (by kernel_rfl) ?_
  repeat (go_big_quiet_step (first|(go_at_call 48;exact Calls.far_all (by simp) (fun w' hb'=>HR1.out▸Q1 t w' _ _ (HB.out w' hb').2.1))|(go_at_call 76;exact Calls.far_all (by simp) (fun w' hb'=>HR2.out▸Q2 c _ w' (HB.out w' hb').2.2.1 (by omega)))))
  refine wpQuiet_nil ?_
  intro wq hbq
  go_wp2_with fail
  go_ret
  exact⟨Qd HF.out.symm,(HB.out _ hbq).1⟩
 have HR2:=hid r2
 have HF:Hid (r9R t c=rLeq (ctxOf t.dots) c):=by unfold Hid r9R;rw[r1,r2];rfl
 have HRN:Hid (∀ d∈t.dots,0<=d.n/\d.n<=1099511627778):=Kx r1
 have HS1:=hid (Jz (Zq t 5 r1))
 have HS2:=hid (JA r2)
 clear r1 r2 hd1 hd2
 have hr3:rLeq (ctxOf t.dots) c=rLeq (ctxOf t.dots) c:=rfl
 cases r3:rLeq (ctxOf t.dots) c
 ·have HR3:=hid r3
  clear r3
  go_upto_region 1 with (fail)
  go_region_held3 (fun w'=>w'.cell? ⟨w.heap.size,0,none⟩=some (.slice A3 t.es.length n3)/\w'.cell? ⟨w.heap.size,1,none⟩=some (.slice A4 t.ks.length n4)/\w'.cell? ⟨w.heap.size,2,none⟩=some (.slice A5 c.length n5))
   (first|go_keep|exact (HB.out _ hb4.out).2.2.2|exact (HB.out _ hb3.out).2.2.2|exact (HB.out _ hb2.out).2.2.2|exact (HB.out _ hb1.out).2.2.2)
   (first
       |(go_at_call 48;go_loud ((refine (Q1 t _ _ _ (HB.out _ (by go_grown)).2.1).mono ?_);rw[HR1.out];rintro e w1 ⟨rfl,hb⟩;have hb1:Hid (Below (w.heap.size+1) (w.alloc (.cells #[.slice A3 t.es.length n3,.slice A4 t.ks.length n4,.slice A5 c.length n5] 29)) w1):=(Below.trans (by go_grown) (hb.mono (by simp)))))
       |(go_at_call 76;go_loud ((refine (Q2 c _ w1 (HB.out _ hb1.out).2.2.1 (by omega)).mono ?_);rw[HR2.out];rintro e w2 ⟨rfl,hb⟩;have hb2:=hid (hb1.out.trans (hb.mono (by have:=hb1.out.size;simpa using this)))))
       |(go_at_call 78;go_loud ((refine (Yx t w2 _ _ (HB.out _ hb2.out).2.1 (by omega) HRN.out).mono ?_);rintro e w3 ⟨v3,rfl,ho3,hb⟩;have hb3:=hid (hb2.out.trans (hb.mono (by have:=hb2.out.size;simpa using this)));have hsl3:=hid (ho3.sl HBL.out);obtain⟨A9,c9,hv9⟩:=ho3.shape;subst hv9;clear ho3))
       |(go_at_call 77;go_loud ((refine (Xf (ctxOf t.dots) c _ _ w3 hsl3.out (HB.out _ hb3.out).2.2.1 hcl (by omega) HS1.out HS2.out).mono ?_);rw[HR3.out];rintro e w4 ⟨rfl,hb⟩;have hb4:=hid (hb3.out.trans (hb.mono (by have:=hb3.out.size;simpa using this))))))
  go_wp2_with fail
  go_ret
  exact⟨Qd (by rw[HF.out,HR3.out]),(HB.out _ hb4.out).1⟩
 ·have HR3:=hid r3
  clear r3
  go_upto_region 1 with (fail)
  go_region_held3 (fun w'=>w'.cell? ⟨w.heap.size,0,none⟩=some (.slice A3 t.es.length n3)/\w'.cell? ⟨w.heap.size,1,none⟩=some (.slice A4 t.ks.length n4)/\w'.cell? ⟨w.heap.size,2,none⟩=some (.slice A5 c.length n5))
   (first|go_keep|exact (HB.out _ hb4.out).2.2.2|exact (HB.out _ hb3.out).2.2.2|exact (HB.out _ hb2.out).2.2.2|exact (HB.out _ hb1.out).2.2.2)
   (first
       |(go_at_call 48;go_loud ((refine (Q1 t _ _ _ (HB.out _ (by go_grown)).2.1).mono ?_);rw[HR1.out];rintro e w1 ⟨rfl,hb⟩;have hb1:Hid (Below (w.heap.size+1) (w.alloc (.cells #[.slice A3 t.es.length n3,.slice A4 t.ks.length n4,.slice A5 c.length n5] 29)) w1):=(Below.trans (by go_grown) (hb.mono (by simp)))))
       |(go_at_call 76;go_loud ((refine (Q2 c _ w1 (HB.out _ hb1.out).2.2.1 (by omega)).mono ?_);rw[HR2.out];rintro e w2 ⟨rfl,hb⟩;have hb2:=hid (hb1.out.trans (hb.mono (by have:=hb1.out.size;simpa using this)))))
       |(go_at_call 78;go_loud ((refine (Yx t w2 _ _ (HB.out _ hb2.out).2.1 (by omega) HRN.out).mono ?_);rintro e w3 ⟨v3,rfl,ho3,hb⟩;have hb3:=hid (hb2.out.trans (hb.mono (by have:=hb2.out.size;simpa using this)));have hsl3:=hid (ho3.sl HBL.out);obtain⟨A9,c9,hv9⟩:=ho3.shape;subst hv9;clear ho3))
       |(go_at_call 77;go_loud ((refine (Xf (ctxOf t.dots) c _ _ w3 hsl3.out (HB.out _ hb3.out).2.2.1 hcl (by omega) HS1.out HS2.out).mono ?_);rw[HR3.out];rintro e w4 ⟨rfl,hb⟩;have hb4:=hid (hb3.out.trans (hb.mono (by have:=hb3.out.size;simpa using this))))))
  go_wp2_with fail
  go_ret
  exact⟨Qd (by rw[HF.out,HR3.out]),(HB.out _ hb4.out).1⟩
def sml9 (t:Tr)(c:List Sp)(n:Int):Bool:=smlB t n&&decide ((c.length:Int)<=n)
theorem Jc (t:Tr)(c:List Sp)(n:Int)(ve vk vc:Value)(w:World)(h:t.rd w w.heap.size ve vk)(hc:SlP w w.heap.size 3 SpE vc c)(hn:0<=n)(hn':n<=1000) :
  Calls Tryz.prog 35 #[.agg #[ve,vk,vc],.int .i64 n] w fun e w'=>e=.returned (.bool (sml9 t c n))/\Below w.heap.size w w':=by
 have HC:Hid (∀ w',Below w.heap.size w w'->t.rd w' w'.heap.size ve vk):=fun w' hb=>Qi hb hb.size _ _ _ h
 obtain⟨A3,n3,A4,n4,rfl,rfl⟩:=Qk h
 obtain⟨A5,n5,rfl,_,hcl,_⟩:=hc
 unfold Big at hcl
 clear h
 have hb0:Below w.heap.size w (w.alloc (.cells #[.slice A3 t.es.length n3,.slice A4 t.ks.length n4,.slice A5 c.length n5] 29)):=(Below.refl _ w).alloc (Nat.le_refl _) _
 go_enter Tryz.func35,Tryz.ntmps35
 go_wp2_with fail
 refine (XZ t _ _ _ n (HC.out _ hb0) hn hn').mono ?_
 rintro e w1 ⟨rfl,hb1⟩
 rw[show decide (0<=t.room n 8)=smlB t n from rfl]
 have hB1:Below w.heap.size w w1:=hb0.trans (hb1.mono (by simp))
 have c2:w1.cell? ⟨w.heap.size,2,none⟩=some (.slice A5 c.length n5):=by rw[hb1.cell (p:=⟨w.heap.size,2,none⟩) (by simp),World.cell?_alloc_new];rfl
 cases hs:smlB t n
 ·have HF:Hid (sml9 t c n=false):=by unfold Hid sml9;rw[hs];rfl
  clear hs
  go_wp2_with fail
  go_ret
  exact⟨Qd HF.out.symm,hB1⟩
 ·have HF:Hid (sml9 t c n=decide ((c.length:Int)<=n)):=by unfold Hid sml9;rw[hs];rfl
  clear hs
  go_wp2_with fail
  go_ret
  exact⟨Qd HF.out.symm,hB1⟩
theorem VA (ca cb:List Sp)(n:Nat)(a b:Tr)(va ka vb kb vca vcb:Value)(w:World)(ha:a.rd w w.heap.size va ka)(hb:b.rd w w.heap.size vb kb)(hca:SlP w w.heap.size 3 SpE vca ca)(hcb:SlP w w.heap.size 3 SpE vcb cb)(hoa:a.Ord)(hob:b.Ord)(hda:a.dep<=n)(hdb:b.dep<=n)(hza:a.sz<=100000)(hzb:b.sz<=100000)(hra:Qm ca=true)(hrb:Qm cb=true)(hN1:ca.length<=20000)(hN2:cb.length<=20000) :
  Calls Tryz.prog 67 #[.agg #[va,ka,vca],.agg #[vb,kb,vcb]] w (RetC w (joinT n ca cb a b) (ctxBy ca cb 0)):=by
 have HA:=hid ha
 have HB:=hid hb
 have HCA:Hid (∀ w',Below w.heap.size w w'->SlP w' w'.heap.size 3 SpE vca ca):=fun w' hb=>hca.imp hb hb.size fun _ _ _ h=>h
 have HCB:Hid (∀ w',Below w.heap.size w w'->SlP w' w'.heap.size 3 SpE vcb cb):=fun w' hb=>hcb.imp hb hb.size fun _ _ _ h=>h
 have HR1:=hid hra
 have HR2:=hid hrb
 have hul:=Q7 ca cb 0 4
 have HUL:Hid ((ctxBy ca cb 0).length<=Big):=by unfold Hid ctxBy Big;omega
 obtain⟨A1,n1,A2,n2,rfl,rfl⟩:=Qk ha
 obtain⟨A3,n3,A4,n4,rfl,rfl⟩:=Qk hb
 obtain⟨A5,n5,rfl,_⟩:=hca
 obtain⟨A6,n6,rfl,_⟩:=hcb
 have HX:Hid (∀ W,Below (w.heap.size+3) (((w.alloc (.cells #[.slice A1 a.es.length n1,.slice A2 a.ks.length n2,.slice A5 ca.length n5] 29)).alloc (.cells #[.slice A3 b.es.length n3,.slice A4 b.ks.length n4,.slice A6 cb.length n6] 29)).alloc (.cells #[.slice none 0 0,.slice none 0 0,.slice none 0 0] 29)) W->Below w.heap.size w W/\W.heap[w.heap.size+2]?=some (.cells #[.slice none 0 0,.slice none 0 0,.slice none 0 0] 29 (0,0))/\w.heap.size+3<=W.heap.size/\(W.cell? ⟨w.heap.size,0,none⟩=some (.slice A1 a.es.length n1)/\W.cell? ⟨w.heap.size,1,none⟩=some (.slice A2 a.ks.length n2)/\W.cell? ⟨w.heap.size,2,none⟩=some (.slice A5 ca.length n5)/\W.cell? ⟨w.heap.size+1,0,none⟩=some (.slice A3 b.es.length n3)/\W.cell? ⟨w.heap.size+1,1,none⟩=some (.slice A4 b.ks.length n4)/\W.cell? ⟨w.heap.size+1,2,none⟩=some (.slice A6 cb.length n6))):=fun W hW=>by
  have g0:W.heap[w.heap.size]?=some (.cells #[.slice A1 a.es.length n1,.slice A2 a.ks.length n2,.slice A5 ca.length n5] 29 (0,0)):=(hW.block _ (by omega)).trans ((Qh (by simp<;>omega)).trans ((Qh (by simp)).trans (Qf rfl)))
  have g1:W.heap[w.heap.size+1]?=some (.cells #[.slice A3 b.es.length n3,.slice A4 b.ks.length n4,.slice A6 cb.length n6] 29 (0,0)):=(hW.block _ (by omega)).trans ((Qh (by simp)).trans (Qf (by simp)))
  have g2:W.heap[w.heap.size+2]?=some (.cells #[.slice none 0 0,.slice none 0 0,.slice none 0 0] 29 (0,0)):=(hW.block _ (by omega)).trans (Qf (by simp))
  exact⟨((((Below.refl _ w).alloc (Nat.le_refl _) _).alloc (by simp) _).alloc (by simp;omega) _).trans (hW.mono (by omega)),g2,by have:=hW.size;simpa using this,Qa (i:=0) g0,Qa (i:=1) g0,Qa (i:=2) g0,Qa (i:=0) g1,Qa (i:=1) g1,Qa (i:=2) g1⟩
 have hneA:w.heap.size+1+1≠w.heap.size:=by omega
 have hneB:w.heap.size≠w.heap.size+1+1:=by omega
 clear ha hb
 go_enter Tryz.func67,Tryz.ntmps67
 go_upto_region 1 with (fail)
 go_region_held3 (fun w'=>w'.cell? ⟨w.heap.size,0,none⟩=some (.slice A1 a.es.length n1)/\w'.cell? ⟨w.heap.size,1,none⟩=some (.slice A2 a.ks.length n2)/\w'.cell? ⟨w.heap.size,2,none⟩=some (.slice A5 ca.length n5)/\w'.cell? ⟨w.heap.size+1,0,none⟩=some (.slice A3 b.es.length n3)/\w'.cell? ⟨w.heap.size+1,1,none⟩=some (.slice A4 b.ks.length n4)/\w'.cell? ⟨w.heap.size+1,2,none⟩=some (.slice A6 cb.length n6))
  (first|go_keep|exact (HX.out _ hbk2.out).2.2.2|exact (HX.out _ hbk1.out).2.2.2)
  (first
      |(go_at_call 111;go_loud ((refine (Ky ca cb (by omega) (by omega) n a b _ _ _ _ _ _ _ (Qi (HX.out _ (by go_grown)).1 (HX.out _ (by go_grown)).1.size _ _ _ HA.out) (Qi (HX.out _ (by go_grown)).1 (HX.out _ (by go_grown)).1.size _ _ _ HB.out) (HCA.out _ (HX.out _ (by go_grown)).1) (HCB.out _ (HX.out _ (by go_grown)).1) hoa hob hda hdb hza hzb).mono ?_);rintro e w1 ⟨ve1,vk1,rfl,hrd1,hb⟩;obtain⟨Av,nv,Aw,nw,rfl,rfl⟩:=Q5 hrd1;have HR:=hid hrd1;have hbk1:Hid (Below (w.heap.size+3) (((w.alloc (.cells #[.slice A1 a.es.length n1,.slice A2 a.ks.length n2,.slice A5 ca.length n5] 29)).alloc (.cells #[.slice A3 b.es.length n3,.slice A4 b.ks.length n4,.slice A6 cb.length n6] 29)).alloc (.cells #[.slice none 0 0,.slice none 0 0,.slice none 0 0] 29)) w1):=(Below.trans (by go_grown) (hb.mono (by simp)));clear hrd1 hb))
      |(go_at_call 112;go_loud ((refine (Xc ca cb _ _ w1 (HCA.out _ (HX.out _ hbk1.out).1) (HCB.out _ (HX.out _ hbk1.out).1) HR1.out HR2.out hN1 hN2).mono ?_);rintro e w2 ⟨v2,rfl,ho2,hb2⟩;obtain⟨A7,c7,hv7⟩:=ho2.shape;subst hv7;have HO2:=hid ho2;have hbk2:=hid (hbk1.out.trans (hb2.mono (HX.out _ hbk1.out).2.2.1));have HG2:=hid (HX.out _ hbk2.out).2.1;have k0:w2.cell? ⟨w.heap.size+2,0,none⟩=some (.slice none 0 0):=Qa (i:=0) HG2.out;have k1:w2.cell? ⟨w.heap.size+2,1,none⟩=some (.slice none 0 0):=Qa (i:=1) HG2.out;have k2:w2.cell? ⟨w.heap.size+2,2,none⟩=some (.slice none 0 0):=Qa (i:=2) HG2.out;have z0:=Qb (i:=0) HG2.out;have z1:=Qb (i:=1) HG2.out;have z2:=Qb (i:=2) HG2.out;have HB2:=hid hb2;clear ho2 hb2)))
 all_goals (
  go_wp2_with fail
  have hs2:w.heap.size+3<=w2.heap.size:=(HX.out _ hbk2.out).2.2.1
  have hs1:w.heap.size+3<=w1.heap.size:=(HX.out _ hbk1.out).2.2.1
  have hs12:=HB2.out.size
  obtain⟨r0,r1,r2,hK,hS⟩:=box3 HG2.out (.slice Av (joinT n ca cb a b).es.length nv) (.slice Aw (joinT n ca cb a b).ks.length nw) (.slice A7 (ctxBy ca cb 0).length c7)
  have hBW:Below w.heap.size w (((w2.setCell ⟨w.heap.size+2,0,none⟩ (.slice Av (joinT n ca cb a b).es.length nv)).setCell ⟨w.heap.size+2,1,none⟩ (.slice Aw (joinT n ca cb a b).ks.length nw)).setCell ⟨w.heap.size+2,2,none⟩ (.slice A7 (ctxBy ca cb 0).length c7)):=(((HX.out _ hbk2.out).1.setCell (by simp) _).setCell (by simp) _).setCell (by simp) _
  clear k0 k1 k2 z0 z1 z2
  generalize (((w2.setCell ⟨w.heap.size+2,0,none⟩ (.slice Av (joinT n ca cb a b).es.length nv)).setCell ⟨w.heap.size+2,1,none⟩ (.slice Aw (joinT n ca cb a b).ks.length nw)).setCell ⟨w.heap.size+2,2,none⟩ (.slice A7 (ctxBy ca cb 0).length c7))=W at *
  refine bodyPost_ret (v:=.agg #[.slice Av (joinT n ca cb a b).es.length nv,.slice Aw (joinT n ca cb a b).ks.length nw,.slice A7 (ctxBy ca cb 0).length c7]) (by simp[results,Tryz.results67,go_sem,r0,r1,r2]) rfl ⟨_,_,_,rfl,?_,?_,hBW⟩
  ·exact Zi (fun b hb=>(hK b (by have:=hb.1;simp only[World.size_alloc,World.size_drew]at this;omega)).trans (HB2.out.block b hb.2)) (fun b hb=>⟨by have:=hb.1;simp only[World.size_alloc,World.size_drew]at this;omega,by have:=hb.2;omega⟩) _ _ _ HR.out
  ·exact (HO2.out.sla HUL.out).up (fun b hb=>hK b (by have:=hb.1;omega)) (fun b hb=>⟨by have:=hb.1;omega,by have:=hb.2.1;omega⟩) (fun _ _ _ h=>h))
end Go.Proofs.YtbcoelggdikipaaGreat
