/- What the laws need. No condition but those that each lemma states. -/
import Derived.Test.YtbcoelggdikipaaGreatUq11
import Derived.Test.YtbcoelggdikipaaGreatUq10
import Derived.Test.YtbcoelggdikipaaGreatUq1
import Derived.Test.YtbcoelggdikipaaGreatUq8
import Derived.Test.YtbcoelggdikipaaGreatUq4
import Derived.Test.YtbcoelggdikipaaGreatUq7
import Derived.Test.YtbcoelggdikipaaGreatUq2
set_option maxRecDepth 100000
set_option maxHeartbeats 8000000
set_option linter.unusedSimpArgs false
namespace Go.Proofs.YtbcoelggdikipaaGreat
open Go.RowKit
def RetVE (w:World)(v:Vw)(k:Int)(e:Ending)(w':World):Prop:=
 ∃ vl,e=.returned (.tuple #[.agg #[.int .i64 v.kind,.bool v.on,.int .i64 v.n,vl],.int .i64 k])/\SlA w' (fun b=>w.heap.size<=b/\b<w'.heap.size) 1 StE vl v.l/\Below w.heap.size w w'
theorem box4 {w:World}{g:Nat}{x y z u:Value}{e:TypeId}(hbx:w.heap[g]?=some (.cells #[x,y,z,u] e (0,0)))(a b c d:Value) :
  ((((w.setCell ⟨g,0,none⟩ a).setCell ⟨g,1,none⟩ b).setCell ⟨g,2,none⟩ c).setCell ⟨g,3,none⟩ d).cell? ⟨g,0,none⟩=some a/\((((w.setCell ⟨g,0,none⟩ a).setCell ⟨g,1,none⟩ b).setCell ⟨g,2,none⟩ c).setCell ⟨g,3,none⟩ d).cell? ⟨g,1,none⟩=some b/\((((w.setCell ⟨g,0,none⟩ a).setCell ⟨g,1,none⟩ b).setCell ⟨g,2,none⟩ c).setCell ⟨g,3,none⟩ d).cell? ⟨g,2,none⟩=some c/\((((w.setCell ⟨g,0,none⟩ a).setCell ⟨g,1,none⟩ b).setCell ⟨g,2,none⟩ c).setCell ⟨g,3,none⟩ d).cell? ⟨g,3,none⟩=some d /\
   (∀ k,k≠g->((((w.setCell ⟨g,0,none⟩ a).setCell ⟨g,1,none⟩ b).setCell ⟨g,2,none⟩ c).setCell ⟨g,3,none⟩ d).heap[k]?=w.heap[k]?)/\((((w.setCell ⟨g,0,none⟩ a).setCell ⟨g,1,none⟩ b).setCell ⟨g,2,none⟩ c).setCell ⟨g,3,none⟩ d).heap.size=w.heap.size:=by
 have hW:=Qe (i:=3) (Qe (i:=2) (Qe (i:=1) (Qe (i:=0) hbx a) b) c) d
 exact⟨(Qa (i:=0) hW).trans (by simp),(Qa (i:=1) hW).trans (by simp),(Qa (i:=2) hW).trans (by simp),(Qa (i:=3) hW).trans (by simp),
  fun k hk=>(Below.heap_setCell _ _ _ _ hk).trans ((Below.heap_setCell _ _ _ _ hk).trans ((Below.heap_setCell _ _ _ _ hk).trans (Below.heap_setCell _ _ _ _ hk))),by simp[World.setCell]⟩
theorem Za {B:Nat}{w0 w:World}{g:Nat}(h:Below B w0 w)(hg:B<=g)(a b c d:Value):Below B w0 ((((w.setCell ⟨g,0,none⟩ a).setCell ⟨g,1,none⟩ b).setCell ⟨g,2,none⟩ c).setCell ⟨g,3,none⟩ d):=
 (((h.setCell (p:=⟨g,0,none⟩) hg a).setCell (p:=⟨g,1,none⟩) hg b).setCell (p:=⟨g,2,none⟩) hg c).setCell (p:=⟨g,3,none⟩) hg d
theorem zZd (u:Tr):(Zj u).length<=u.es.length:=by
 unfold Zj
 have h1:∀ l:List ByteArray,(cmpL (srtL l)).length<=l.length:=fun l=>by
  rw[sd_eq]
  obtain⟨h1,h2⟩:=Yx l
  exact List.Nodup.length_le_of_subset (qYu h1) fun x hx=>(h2 x).1 hx
 refine Nat.le_trans (h1 _) ?_
 split
 ·unfold txtL;simp
 ·simp
theorem zZe (u:Tr):(ZD u).length<=u.ks.length:=by unfold ZD;split<;>simp
theorem qJd {t:Tr}{p:List ByteArray}(h:readI t p≠0):readV t p=vw0:=by unfold readV;rw[if_neg h]
theorem qKn (t:Tr)(path:List ByteArray)(ve vk vp:Value)(w:World)(h:t.rd w w.heap.size ve vk)(hp:SlP w w.heap.size 1 StE vp path)(hN:t.sz<=4000) :
  Calls Tryz.prog 47 #[.agg #[ve,vk],vp] w (RetVE w (readV t path) (readI t path)):=by
 have HC:Hid (∀ w',Below w.heap.size w w'->t.rd w' w'.heap.size ve vk):=fun w' hb=>Qi hb hb.size _ _ _ h
 have HD:Hid (∀ w',Below w.heap.size w w'->SlP w' w'.heap.size 1 StE vp path):=fun w' hb=>hp.imp hb hb.size fun _ _ _ h=>h
 obtain⟨A3,n3,A4,n4,rfl,rfl⟩:=Qk h
 obtain⟨A5,n5,rfl,p1,p2,p3⟩:=hp
 unfold Big at p2
 have hb0:=((Below.refl w.heap.size w).alloc (Nat.le_refl _) (.cells #[.slice A3 t.es.length n3,.slice A4 t.ks.length n4] 25)).alloc (by simp) (.cells #[.int .i64 0,.bool false,.int .i64 0,.slice none 0 0] 55)
 have HX:Hid (∀ W,Below (w.heap.size+2) ((w.alloc (.cells #[.slice A3 t.es.length n3,.slice A4 t.ks.length n4] 25)).alloc (.cells #[.int .i64 0,.bool false,.int .i64 0,.slice none 0 0] 55)) W ->
   (Below w.heap.size w W/\t.rd W W.heap.size (.slice A3 t.es.length n3) (.slice A4 t.ks.length n4)/\SlP W W.heap.size 1 StE (.slice A5 path.length n5) path/\W.cell? ⟨w.heap.size,0,none⟩=some (.slice A3 t.es.length n3)/\W.cell? ⟨w.heap.size,1,none⟩=some (.slice A4 t.ks.length n4)/\W.heap[w.heap.size+1]?=some (.cells #[.int .i64 0,.bool false,.int .i64 0,.slice none 0 0] 55 (0,0)))):=fun W hW=>by
  have g0:W.heap[w.heap.size]?=some (.cells #[.slice A3 t.es.length n3,.slice A4 t.ks.length n4] 25 (0,0)):=(hW.block _ (by omega)).trans ((Qg (by simp)).trans (Qd rfl))
  have g1:W.heap[w.heap.size+1]?=some (.cells #[.int .i64 0,.bool false,.int .i64 0,.slice none 0 0] 55 (0,0)):=(hW.block _ (by omega)).trans (Qd (by simp))
  have hB:=hb0.trans (hW.mono (by omega))
  exact⟨hB,HC.out _ hB,HD.out _ hB,Qa (i:=0) g0,Qa (i:=1) g0,g1⟩
 clear h
 go_enter Tryz.func47,Tryz.ntmps47
 go_wp2_with fail
 obtain⟨hB,rt,rp,c0,c1,g1⟩:=HX.out _ (Below.refl _ _)
 refine (QG t _ _ _ rt).mono ?_
 cases ht:t.right 5
 ·rintro e w1 ⟨rfl,hb1⟩
  have HBN:=hid (hb1.mono (show w.heap.size+2<=_ by simp))
  have hRI:readI t path=1:=by unfold readI;rw[ht];rfl
  have HRI:=hid hRI
  have HRV:=hid (qJd (t:=t) (p:=path) (by rw[hRI];decide))
  clear hB rt rp c0 c1 g1 ht hb1 hRI
  have hGZ:=(HX.out _ HBN.out).2.2.2.2.2
  have hBz:=(HX.out _ HBN.out).1
  have HG:=hid hGZ
  have HBZ:=hid hBz
  obtain⟨k0,k1,k2,k3,z0,z1,z2,z3⟩:=bz4 hGZ
  clear hGZ hBz
  go_wp2_with fail
  obtain⟨r0,r1,r2,r3,hK,hS⟩:=box4 HG.out (.int .i64 0) (.bool false) (.int .i64 0) (.slice none 0 0)
  have hBW:=Za HBZ.out (show w.heap.size<=w.heap.size+1 by omega) (.int .i64 0) (.bool false) (.int .i64 0) (.slice none 0 0)
  exact bodyPost_ret (v:=.tuple #[.agg #[.int .i64 0,.bool false,.int .i64 0,.slice none 0 0],.int .i64 1]) (by simp[results,Tryz.results47,go_sem,r0,r1,r2,r3]<;>rfl) rfl ⟨_,by rw[HRI.out,HRV.out];rfl,by rw[HRV.out];exact SlA.nil,hBW⟩
 rintro e w1 ⟨rfl,hb1⟩
 have HBN:=hid (hb1.mono (show w.heap.size+2<=_ by simp))
 clear hB rt rp c0 c1 g1 hb1
 obtain⟨hB,rt,rp,c0,c1,g1⟩:=HX.out _ HBN.out
 have HT:=hid ht
 clear ht
 go_wp2_with fail
 refine (XX path _ _ rp).mono ?_
 by_cases hi:pathI path=0
 case neg=>
  rintro e w2 ⟨rfl,hb2⟩
  have HBN2:=hid (HBN.out.trans (hb2.mono (by have:=HBN.out.size;simpa using this)))
  have hne:(pathI path==0)=false:=by simpa using hi
  have hRI:readI t path=pathI path:=by unfold readI;rw[HT.out];rfl
  have HRI:=hid hRI
  have HRV:=hid (qJd (t:=t) (p:=path) (by rw[hRI];exact hi))
  clear hB rt rp c0 c1 g1 hb2 hi HBN hRI
  have HBN:=HBN2
  have hGZ:=(HX.out _ HBN.out).2.2.2.2.2
  have hBz:=(HX.out _ HBN.out).1
  have HG:=hid hGZ
  have HBZ:=hid hBz
  obtain⟨k0,k1,k2,k3,z0,z1,z2,z3⟩:=bz4 hGZ
  clear hGZ hBz
  go_wp2_with fail
  obtain⟨r0,r1,r2,r3,hK,hS⟩:=box4 HG.out (.int .i64 0) (.bool false) (.int .i64 0) (.slice none 0 0)
  have hBW:=Za HBZ.out (show w.heap.size<=w.heap.size+1 by omega) (.int .i64 0) (.bool false) (.int .i64 0) (.slice none 0 0)
  exact bodyPost_ret (v:=.tuple #[.agg #[.int .i64 0,.bool false,.int .i64 0,.slice none 0 0],.int .i64 (pathI path)]) (by simp[results,Tryz.results47,go_sem,r0,r1,r2,r3]<;>rfl) rfl ⟨_,by rw[HRI.out,HRV.out];rfl,by rw[HRV.out];exact SlA.nil,hBW⟩
 rw[hi]
 rintro e w2 ⟨rfl,hb2⟩
 have HBN2:=hid (HBN.out.trans (hb2.mono (by have:=HBN.out.size;simpa using this)))
 have HI:=hid hi
 obtain⟨hk1,hk2⟩:=qWy hi
 have hpl:=(Q2 hi).1
 clear hB rt rp c0 c1 g1 hb2 hi HBN
 have HBN:=HBN2
 clear HBN2
 obtain⟨hB,rt,rp,c0,c1,g1⟩:=HX.out _ HBN.out
 obtain⟨u,HU⟩:∃ u,Hid (tgetT t path=u):=⟨_,rfl⟩
 have HUK:Hid (getK t path=u):=(XR HT.out path).symm.trans HU.out
 have hus:u.sz<=4000:=by rw[←HUK.out];exact Nat.le_trans (Q1 t path) hN
 have hue:=es_sz u
 go_wp2_with fail
 refine (XA t path _ _ _ _ rt rp (by omega)).mono ?_
 rw[HU.out]
 rintro e w3 ⟨ve3,vk3,rfl,hrd3,hb3⟩
 obtain⟨Ar,nr,Br,mr,rfl,rfl⟩:=Qj hrd3
 have HBN2:=hid (HBN.out.trans (hb3.mono (by have:=HBN.out.size;simpa using this)))
 have hs3:=HBN2.out.size
 simp only[World.size_alloc]at hs3
 have HR3:=hid hrd3
 obtain⟨bq,offq,hA5,hbq,hcq⟩:=p3 (by rintro rfl;simp at hpl)
 subst hA5
 obtain⟨cs,⟨rfl,hkok⟩,_,hku⟩:=hcq (path.length-1) _ (Z1 hpl)
 have HY:Hid (∀ W,Below (w3.heap.size+1) (w3.alloc (.cells #[.slice Ar u.es.length nr,.slice Br u.ks.length mr] 25)) W->(Below (w.heap.size+2) ((w.alloc (.cells #[.slice A3 t.es.length n3,.slice A4 t.ks.length n4] 25)).alloc (.cells #[.int .i64 0,.bool false,.int .i64 0,.slice none 0 0] 55)) W/\u.rd W W.heap.size (.slice Ar u.es.length nr) (.slice Br u.ks.length mr)/\W.cell? ⟨w3.heap.size,0,none⟩=some (.slice Ar u.es.length nr)/\W.cell? ⟨w3.heap.size,1,none⟩=some (.slice Br u.ks.length mr)/\W.cell? ⟨bq,offq+(path.length-1),none⟩=some (.string (lastK path)))):=fun W hW=>by
  have g:=(hW.block w3.heap.size (by omega)).trans (Qd rfl)
  have hB3:=((Below.refl _ w3).alloc (Nat.le_refl _) _).trans (hW.mono (by omega))
  have hBX:=HBN2.out.trans (hB3.mono (by omega))
  have hBW:=(HX.out W hBX).1
  exact⟨hBX,QQ HR3.out (fun b hb=>hb.2) hB3,Qa (i:=0) g,Qa (i:=1) g,(hBW.cell (p:=⟨bq,offq+(path.length-1),none⟩) hbq).trans (by simpa using hku 0 _ rfl)⟩
 clear hB rt rp c0 c1 g1 hb3 hrd3 HBN hku hcq p3
 obtain⟨hBy,ru,y0,y1,y2⟩:=HY.out _ (Below.refl _ _)
 go_wp2_with fail
 refine (Q5 (lastK path) _).mono ?_
 rcases (show kindB (lastK path)=1∨kindB (lastK path)=2∨kindB (lastK path)=3∨kindB (lastK path)=4∨kindB (lastK path)=5 by omega) with hk|hk|hk|hk|hk
 ·rw[hk]
  rintro e w4 ⟨rfl,hb4⟩
  have HBY:=hid (hb4.mono (show w3.heap.size+1<=_ by simp))
  have hs4:=HBY.out.size
  simp only[World.size_alloc]at hs4
  have HV:Hid (∀ W,Below (w4.heap.size+1) (w4.alloc (.cells #[.int .i64 1,.bool false,.int .i64 0,.slice none 0 0] 55)) W->(Below (w3.heap.size+1) (w3.alloc (.cells #[.slice Ar u.es.length nr,.slice Br u.ks.length mr] 25)) W/\W.heap[w4.heap.size]?=some (.cells #[.int .i64 1,.bool false,.int .i64 0,.slice none 0 0] 55 (0,0)))):=fun W hW=>
   ⟨HBY.out.trans ((((Below.refl _ w4).alloc (Nat.le_refl _) _).trans (hW.mono (by omega))).mono (by omega)),(hW.block w4.heap.size (by omega)).trans (Qd rfl)⟩
  have HVW:Hid (readV t path=viewK 1 u/\readI t path=0):=by
   have h0:readI t path=0:=by unfold readI;rw[HT.out,HI.out];rfl
   exact⟨by unfold readV;rw[if_pos h0,hk,HUK.out],h0⟩
  clear hBy ru y0 y1 y2 hb4 hk
  obtain⟨hBv,gv⟩:=HV.out _ (Below.refl _ _)
  obtain⟨hBy,ru,y0,y1,y2⟩:=HY.out _ hBv
  have v0:=Qa (i:=0) gv
  simp only[List.getElem?_toArray,List.getElem?_cons_zero]at v0
  go_wp2_with fail
  refine (zXo u _ _ _ ru).mono ?_
  rintro e w5 ⟨rfl,hb5⟩
  have HBV:=hid (hb5.mono (show w4.heap.size+1<=_ by simp))
  have hs5:=HBV.out.size
  simp only[World.size_alloc]at hs5
  clear hBv gv hBy ru y0 y1 y2 v0 hb5
  obtain⟨hBv,gv⟩:=HV.out _ HBV.out
  obtain⟨hBx,_,_,_,_⟩:=HY.out _ hBv
  obtain⟨hBW,_,_,_,_,gz⟩:=HX.out _ hBx
  have HGV:=hid gv
  have HGZ:=hid gz
  have HBW:=hid hBW
  obtain⟨v0,v1,v2,v3,u0,u1,u2,u3⟩:=bz4 gv
  obtain⟨k0,k1,k2,k3,z0,z1,z2,z3⟩:=bz4 gz
  have hne1:w4.heap.size≠w.heap.size+1:=by omega
  have hne2:w.heap.size+1≠w4.heap.size:=by omega
  clear hBv gv hBx hBW gz
  go_wp2_with fail
  have HG5:(w5.setCell ⟨w4.heap.size,1,none⟩ (.bool (onB u))).heap[w.heap.size+1]?=some (.cells #[.int .i64 0,.bool false,.int .i64 0,.slice none 0 0] 55 (0,0)):=(Below.heap_setCell _ _ _ _ (by simp;omega)).trans HGZ.out
  have hS5:(w5.setCell ⟨w4.heap.size,1,none⟩ (.bool (onB u))).heap.size=w5.heap.size:=by simp[World.setCell]
  obtain⟨r0,r1,r2,r3,hK,hS⟩:=box4 HG5 (.int .i64 1) (.bool (onB u)) (.int .i64 0) (.slice none 0 0)
  have hBB:=Za (HBW.out.setCell (p:=⟨w4.heap.size,1,none⟩) (by simp;omega) (.bool (onB u))) (show w.heap.size<=w.heap.size+1 by omega) (.int .i64 1) (.bool (onB u)) (.int .i64 0) (.slice none 0 0)
  exact bodyPost_ret (v:=.tuple #[.agg #[.int .i64 1,.bool (onB u),.int .i64 0,.slice none 0 0],.int .i64 0]) (by simp[results,Tryz.results47,go_sem,r0,r1,r2,r3]<;>rfl) rfl ⟨_,by rw[HVW.out.1,HVW.out.2];rfl,by rw[HVW.out.1];exact SlA.nil,hBB⟩
 ·rw[hk]
  rintro e w4 ⟨rfl,hb4⟩
  have HBY:=hid (hb4.mono (show w3.heap.size+1<=_ by simp))
  have hs4:=HBY.out.size
  simp only[World.size_alloc]at hs4
  have HV:Hid (∀ W,Below (w4.heap.size+1) (w4.alloc (.cells #[.int .i64 2,.bool false,.int .i64 0,.slice none 0 0] 55)) W->(Below (w3.heap.size+1) (w3.alloc (.cells #[.slice Ar u.es.length nr,.slice Br u.ks.length mr] 25)) W/\W.heap[w4.heap.size]?=some (.cells #[.int .i64 2,.bool false,.int .i64 0,.slice none 0 0] 55 (0,0)))):=fun W hW=>
   ⟨HBY.out.trans ((((Below.refl _ w4).alloc (Nat.le_refl _) _).trans (hW.mono (by omega))).mono (by omega)),(hW.block w4.heap.size (by omega)).trans (Qd rfl)⟩
  have HVW:Hid (readV t path=viewK 2 u/\readI t path=0):=by
   have h0:readI t path=0:=by unfold readI;rw[HT.out,HI.out];rfl
   exact⟨by unfold readV;rw[if_pos h0,hk,HUK.out],h0⟩
  clear hBy ru y0 y1 y2 hb4 hk
  obtain⟨hBv,gv⟩:=HV.out _ (Below.refl _ _)
  obtain⟨hBy,ru,y0,y1,y2⟩:=HY.out _ hBv
  have v0:=Qa (i:=0) gv
  simp only[List.getElem?_toArray,List.getElem?_cons_zero]at v0
  go_wp2_with fail
  refine (qKh u _ _ _ ru (by omega)).mono ?_
  rintro e w5 ⟨vL,rfl,ho5,hb5⟩
  obtain⟨Av,nv,rfl⟩:=ho5.shape
  have HSL:=hid (OwnP.sla ho5 (by unfold Big;have:=qXa u;omega))
  have hbs5:w.heap.size+2<=w5.heap.size:=by have:=hb5.size;simp at this;omega
  simp only[World.size_alloc]at HSL
  clear ho5
  have HBV:=hid (hb5.mono (show w4.heap.size+1<=_ by simp))
  have hs5:=HBV.out.size
  simp only[World.size_alloc]at hs5
  clear hBv gv hBy ru y0 y1 y2 v0 hb5
  obtain⟨hBv,gv⟩:=HV.out _ HBV.out
  obtain⟨hBx,_,_,_,_⟩:=HY.out _ hBv
  obtain⟨hBW,_,_,_,_,gz⟩:=HX.out _ hBx
  have HGV:=hid gv
  have HGZ:=hid gz
  have HBW:=hid hBW
  obtain⟨v0,v1,v2,v3,u0,u1,u2,u3⟩:=bz4 gv
  obtain⟨k0,k1,k2,k3,z0,z1,z2,z3⟩:=bz4 gz
  have hne1:w4.heap.size≠w.heap.size+1:=by omega
  have hne2:w.heap.size+1≠w4.heap.size:=by omega
  clear hBv gv hBx hBW gz
  go_wp2_with fail
  have HG5:(w5.setCell ⟨w4.heap.size,3,none⟩ (.slice Av (Q0 u).length nv)).heap[w.heap.size+1]?=some (.cells #[.int .i64 0,.bool false,.int .i64 0,.slice none 0 0] 55 (0,0)):=(Below.heap_setCell _ _ _ _ (by simp;omega)).trans HGZ.out
  have hS5:(w5.setCell ⟨w4.heap.size,3,none⟩ (.slice Av (Q0 u).length nv)).heap.size=w5.heap.size:=by simp[World.setCell]
  obtain⟨r0,r1,r2,r3,hK,hS⟩:=box4 HG5 (.int .i64 2) (.bool false) (.int .i64 0) (.slice Av (Q0 u).length nv)
  have hBB:=Za (HBW.out.setCell (p:=⟨w4.heap.size,3,none⟩) (by simp;omega) (.slice Av (Q0 u).length nv)) (show w.heap.size<=w.heap.size+1 by omega) (.int .i64 2) (.bool false) (.int .i64 0) (.slice Av (Q0 u).length nv)
  exact bodyPost_ret (v:=.tuple #[.agg #[.int .i64 2,.bool false,.int .i64 0,.slice Av (Q0 u).length nv],.int .i64 0]) (by simp[results,Tryz.results47,go_sem,r0,r1,r2,r3]<;>rfl) rfl ⟨_,by rw[HVW.out.1,HVW.out.2];rfl,by
   rw[HVW.out.1]
   exact HSL.out.up (fun b hb=>(hK b (by have:=hb.1;omega)).trans (Below.heap_setCell _ _ _ _ (by have:=hb.1;simp;omega))) (fun b hb=>⟨by have:=hb.1;omega,by rw[hS,hS5];exact hb.2.1⟩) (fun _ _ _ h=>h),hBB⟩
 ·rw[hk]
  rintro e w4 ⟨rfl,hb4⟩
  have HBY:=hid (hb4.mono (show w3.heap.size+1<=_ by simp))
  have hs4:=HBY.out.size
  simp only[World.size_alloc]at hs4
  have HV:Hid (∀ W,Below (w4.heap.size+1) (w4.alloc (.cells #[.int .i64 3,.bool false,.int .i64 0,.slice none 0 0] 55)) W->(Below (w3.heap.size+1) (w3.alloc (.cells #[.slice Ar u.es.length nr,.slice Br u.ks.length mr] 25)) W/\W.heap[w4.heap.size]?=some (.cells #[.int .i64 3,.bool false,.int .i64 0,.slice none 0 0] 55 (0,0)))):=fun W hW=>
   ⟨HBY.out.trans ((((Below.refl _ w4).alloc (Nat.le_refl _) _).trans (hW.mono (by omega))).mono (by omega)),(hW.block w4.heap.size (by omega)).trans (Qd rfl)⟩
  have HVW:Hid (readV t path=viewK 3 u/\readI t path=0):=by
   have h0:readI t path=0:=by unfold readI;rw[HT.out,HI.out];rfl
   exact⟨by unfold readV;rw[if_pos h0,hk,HUK.out],h0⟩
  clear hBy ru y0 y1 y2 hb4 hk
  obtain⟨hBv,gv⟩:=HV.out _ (Below.refl _ _)
  obtain⟨hBy,ru,y0,y1,y2⟩:=HY.out _ hBv
  have v0:=Qa (i:=0) gv
  simp only[List.getElem?_toArray,List.getElem?_cons_zero]at v0
  go_wp2_with fail
  refine (qKl u _ _ _ ru).mono ?_
  rintro e w5 ⟨rfl,hb5⟩
  have HBV:=hid (hb5.mono (show w4.heap.size+1<=_ by simp))
  have hs5:=HBV.out.size
  simp only[World.size_alloc]at hs5
  clear hBv gv hBy ru y0 y1 y2 v0 hb5
  obtain⟨hBv,gv⟩:=HV.out _ HBV.out
  obtain⟨hBx,_,_,_,_⟩:=HY.out _ hBv
  obtain⟨hBW,_,_,_,_,gz⟩:=HX.out _ hBx
  have HGV:=hid gv
  have HGZ:=hid gz
  have HBW:=hid hBW
  obtain⟨v0,v1,v2,v3,u0,u1,u2,u3⟩:=bz4 gv
  obtain⟨k0,k1,k2,k3,z0,z1,z2,z3⟩:=bz4 gz
  have hne1:w4.heap.size≠w.heap.size+1:=by omega
  have hne2:w.heap.size+1≠w4.heap.size:=by omega
  clear hBv gv hBx hBW gz
  go_wp2_with fail
  have HG5:(w5.setCell ⟨w4.heap.size,2,none⟩ (.int .i64 (valT u))).heap[w.heap.size+1]?=some (.cells #[.int .i64 0,.bool false,.int .i64 0,.slice none 0 0] 55 (0,0)):=(Below.heap_setCell _ _ _ _ (by simp;omega)).trans HGZ.out
  have hS5:(w5.setCell ⟨w4.heap.size,2,none⟩ (.int .i64 (valT u))).heap.size=w5.heap.size:=by simp[World.setCell]
  obtain⟨r0,r1,r2,r3,hK,hS⟩:=box4 HG5 (.int .i64 3) (.bool false) (.int .i64 (valT u)) (.slice none 0 0)
  have hBB:=Za (HBW.out.setCell (p:=⟨w4.heap.size,2,none⟩) (by simp;omega) (.int .i64 (valT u))) (show w.heap.size<=w.heap.size+1 by omega) (.int .i64 3) (.bool false) (.int .i64 (valT u)) (.slice none 0 0)
  exact bodyPost_ret (v:=.tuple #[.agg #[.int .i64 3,.bool false,.int .i64 (valT u),.slice none 0 0],.int .i64 0]) (by simp[results,Tryz.results47,go_sem,r0,r1,r2,r3]<;>rfl) rfl ⟨_,by rw[HVW.out.1,HVW.out.2];rfl,by rw[HVW.out.1];exact SlA.nil,hBB⟩
 ·rw[hk]
  rintro e w4 ⟨rfl,hb4⟩
  have HBY:=hid (hb4.mono (show w3.heap.size+1<=_ by simp))
  have hs4:=HBY.out.size
  simp only[World.size_alloc]at hs4
  have HV:Hid (∀ W,Below (w4.heap.size+1) (w4.alloc (.cells #[.int .i64 4,.bool false,.int .i64 0,.slice none 0 0] 55)) W->(Below (w3.heap.size+1) (w3.alloc (.cells #[.slice Ar u.es.length nr,.slice Br u.ks.length mr] 25)) W/\W.heap[w4.heap.size]?=some (.cells #[.int .i64 4,.bool false,.int .i64 0,.slice none 0 0] 55 (0,0)))):=fun W hW=>
   ⟨HBY.out.trans ((((Below.refl _ w4).alloc (Nat.le_refl _) _).trans (hW.mono (by omega))).mono (by omega)),(hW.block w4.heap.size (by omega)).trans (Qd rfl)⟩
  have HVW:Hid (readV t path=viewK 4 u/\readI t path=0):=by
   have h0:readI t path=0:=by unfold readI;rw[HT.out,HI.out];rfl
   exact⟨by unfold readV;rw[if_pos h0,hk,HUK.out],h0⟩
  clear hBy ru y0 y1 y2 hb4 hk
  obtain⟨hBv,gv⟩:=HV.out _ (Below.refl _ _)
  obtain⟨hBy,ru,y0,y1,y2⟩:=HY.out _ hBv
  have v0:=Qa (i:=0) gv
  simp only[List.getElem?_toArray,List.getElem?_cons_zero]at v0
  go_wp2_with fail
  refine (qVv u _ _ _ ru (by omega)).mono ?_
  rintro e w5 ⟨vL,rfl,ho5,hb5⟩
  obtain⟨Av,nv,rfl⟩:=ho5.shape
  have HSL:=hid (OwnP.sla ho5 (by unfold Big;have:=zZd u;omega))
  have hbs5:w.heap.size+2<=w5.heap.size:=by have:=hb5.size;simp at this;omega
  simp only[World.size_alloc]at HSL
  clear ho5
  have HBV:=hid (hb5.mono (show w4.heap.size+1<=_ by simp))
  have hs5:=HBV.out.size
  simp only[World.size_alloc]at hs5
  clear hBv gv hBy ru y0 y1 y2 v0 hb5
  obtain⟨hBv,gv⟩:=HV.out _ HBV.out
  obtain⟨hBx,_,_,_,_⟩:=HY.out _ hBv
  obtain⟨hBW,_,_,_,_,gz⟩:=HX.out _ hBx
  have HGV:=hid gv
  have HGZ:=hid gz
  have HBW:=hid hBW
  obtain⟨v0,v1,v2,v3,u0,u1,u2,u3⟩:=bz4 gv
  obtain⟨k0,k1,k2,k3,z0,z1,z2,z3⟩:=bz4 gz
  have hne1:w4.heap.size≠w.heap.size+1:=by omega
  have hne2:w.heap.size+1≠w4.heap.size:=by omega
  clear hBv gv hBx hBW gz
  go_wp2_with fail
  have HG5:(w5.setCell ⟨w4.heap.size,3,none⟩ (.slice Av (Zj u).length nv)).heap[w.heap.size+1]?=some (.cells #[.int .i64 0,.bool false,.int .i64 0,.slice none 0 0] 55 (0,0)):=(Below.heap_setCell _ _ _ _ (by simp;omega)).trans HGZ.out
  have hS5:(w5.setCell ⟨w4.heap.size,3,none⟩ (.slice Av (Zj u).length nv)).heap.size=w5.heap.size:=by simp[World.setCell]
  obtain⟨r0,r1,r2,r3,hK,hS⟩:=box4 HG5 (.int .i64 4) (.bool false) (.int .i64 0) (.slice Av (Zj u).length nv)
  have hBB:=Za (HBW.out.setCell (p:=⟨w4.heap.size,3,none⟩) (by simp;omega) (.slice Av (Zj u).length nv)) (show w.heap.size<=w.heap.size+1 by omega) (.int .i64 4) (.bool false) (.int .i64 0) (.slice Av (Zj u).length nv)
  exact bodyPost_ret (v:=.tuple #[.agg #[.int .i64 4,.bool false,.int .i64 0,.slice Av (Zj u).length nv],.int .i64 0]) (by simp[results,Tryz.results47,go_sem,r0,r1,r2,r3]<;>rfl) rfl ⟨_,by rw[HVW.out.1,HVW.out.2];rfl,by
   rw[HVW.out.1]
   exact HSL.out.up (fun b hb=>(hK b (by have:=hb.1;omega)).trans (Below.heap_setCell _ _ _ _ (by have:=hb.1;simp;omega))) (fun b hb=>⟨by have:=hb.1;omega,by rw[hS,hS5];exact hb.2.1⟩) (fun _ _ _ h=>h),hBB⟩
 ·rw[hk]
  rintro e w4 ⟨rfl,hb4⟩
  have HBY:=hid (hb4.mono (show w3.heap.size+1<=_ by simp))
  have hs4:=HBY.out.size
  simp only[World.size_alloc]at hs4
  have HV:Hid (∀ W,Below (w4.heap.size+1) (w4.alloc (.cells #[.int .i64 5,.bool false,.int .i64 0,.slice none 0 0] 55)) W->(Below (w3.heap.size+1) (w3.alloc (.cells #[.slice Ar u.es.length nr,.slice Br u.ks.length mr] 25)) W/\W.heap[w4.heap.size]?=some (.cells #[.int .i64 5,.bool false,.int .i64 0,.slice none 0 0] 55 (0,0)))):=fun W hW=>
   ⟨HBY.out.trans ((((Below.refl _ w4).alloc (Nat.le_refl _) _).trans (hW.mono (by omega))).mono (by omega)),(hW.block w4.heap.size (by omega)).trans (Qd rfl)⟩
  have HVW:Hid (readV t path=viewK 5 u/\readI t path=0):=by
   have h0:readI t path=0:=by unfold readI;rw[HT.out,HI.out];rfl
   exact⟨by unfold readV;rw[if_pos h0,hk,HUK.out],h0⟩
  clear hBy ru y0 y1 y2 hb4 hk
  obtain⟨hBv,gv⟩:=HV.out _ (Below.refl _ _)
  obtain⟨hBy,ru,y0,y1,y2⟩:=HY.out _ hBv
  have v0:=Qa (i:=0) gv
  simp only[List.getElem?_toArray,List.getElem?_cons_zero]at v0
  go_wp2_with fail
  refine (qVu u _ _ _ ru (by omega)).mono ?_
  rintro e w5 ⟨vL,rfl,ho5,hb5⟩
  obtain⟨Av,nv,rfl⟩:=ho5.shape
  have HSL:=hid (OwnP.sla ho5 (by unfold Big;have:=zZe u;omega))
  have hbs5:w.heap.size+2<=w5.heap.size:=by have:=hb5.size;simp at this;omega
  simp only[World.size_alloc]at HSL
  clear ho5
  have HBV:=hid (hb5.mono (show w4.heap.size+1<=_ by simp))
  have hs5:=HBV.out.size
  simp only[World.size_alloc]at hs5
  clear hBv gv hBy ru y0 y1 y2 v0 hb5
  obtain⟨hBv,gv⟩:=HV.out _ HBV.out
  obtain⟨hBx,_,_,_,_⟩:=HY.out _ hBv
  obtain⟨hBW,_,_,_,_,gz⟩:=HX.out _ hBx
  have HGV:=hid gv
  have HGZ:=hid gz
  have HBW:=hid hBW
  obtain⟨v0,v1,v2,v3,u0,u1,u2,u3⟩:=bz4 gv
  obtain⟨k0,k1,k2,k3,z0,z1,z2,z3⟩:=bz4 gz
  have hne1:w4.heap.size≠w.heap.size+1:=by omega
  have hne2:w.heap.size+1≠w4.heap.size:=by omega
  clear hBv gv hBx hBW gz
  go_wp2_with fail
  have HG5:(w5.setCell ⟨w4.heap.size,3,none⟩ (.slice Av (ZD u).length nv)).heap[w.heap.size+1]?=some (.cells #[.int .i64 0,.bool false,.int .i64 0,.slice none 0 0] 55 (0,0)):=(Below.heap_setCell _ _ _ _ (by simp;omega)).trans HGZ.out
  have hS5:(w5.setCell ⟨w4.heap.size,3,none⟩ (.slice Av (ZD u).length nv)).heap.size=w5.heap.size:=by simp[World.setCell]
  obtain⟨r0,r1,r2,r3,hK,hS⟩:=box4 HG5 (.int .i64 5) (.bool false) (.int .i64 0) (.slice Av (ZD u).length nv)
  have hBB:=Za (HBW.out.setCell (p:=⟨w4.heap.size,3,none⟩) (by simp;omega) (.slice Av (ZD u).length nv)) (show w.heap.size<=w.heap.size+1 by omega) (.int .i64 5) (.bool false) (.int .i64 0) (.slice Av (ZD u).length nv)
  exact bodyPost_ret (v:=.tuple #[.agg #[.int .i64 5,.bool false,.int .i64 0,.slice Av (ZD u).length nv],.int .i64 0]) (by simp[results,Tryz.results47,go_sem,r0,r1,r2,r3]<;>rfl) rfl ⟨_,by rw[HVW.out.1,HVW.out.2];rfl,by
   rw[HVW.out.1]
   exact HSL.out.up (fun b hb=>(hK b (by have:=hb.1;omega)).trans (Below.heap_setCell _ _ _ _ (by have:=hb.1;simp;omega))) (fun b hb=>⟨by have:=hb.1;omega,by rw[hS,hS5];exact hb.2.1⟩) (fun _ _ _ h=>h),hBB⟩
section
variable {w:World}{G N:Kn}{ops:List Opr}{g:Nat}{okp:Nat->Prop}{v:Nat->V3}{vo:Value}
theorem qKo (path:List ByteArray)(vp:Value)(h:TxB w g okp v vo G N ops)(hp:SlP w w.heap.size 1 StE vp path)(hN:N.1.sz<=4000) :
  Calls Tryz.prog 21 #[.pointer (some ⟨g,0,none⟩),vp] w (RetVE w (readV N.1 path) (readI N.1 path)):=by
 have HP:=hid hp
 obtain⟨A5,c5,rfl,_⟩:=hp
 have HST:=hid h
 have hgl:=h.lt
 obtain⟨a1,b1,c1,hv1⟩:∃ a b c,v 1=(a,b,c):=⟨_,_,_,rfl⟩
 have hrN:=h.rdN
 rw[hv1]at hrN
 obtain⟨An,nn1,Bn,mn,e1,e2⟩:=Qk hrN
 simp only at e1 e2
 subst e1;subst e2
 have HV1:=hid hv1
 have HX:Hid (∀ W,Below (w.heap.size+1) (w.alloc (.cells #[.int .i64 0,.bool false,.int .i64 0,.slice none 0 0] 55)) W->(Below w.heap.size w W/\W.heap[w.heap.size]?=some (.cells #[.int .i64 0,.bool false,.int .i64 0,.slice none 0 0] 55 (0,0))/\N.1.rd W W.heap.size (.slice An N.1.es.length nn1) (.slice Bn N.1.ks.length mn)/\SlP W W.heap.size 1 StE (.slice A5 path.length c5) path/\W.cell? ⟨g,3,none⟩=some (.slice An N.1.es.length nn1)/\W.cell? ⟨g,4,none⟩=some (.slice Bn N.1.ks.length mn))):=fun W hW=>by
  have hB:Below w.heap.size w W:=((Below.refl _ w).alloc (Nat.le_refl _) _).trans (hW.mono (by omega))
  have hs:=HST.out.grow hB
  have r1:=hs.rdN
  obtain⟨_,_,_,d3,d4,_⟩:=hs.cells
  rw[HV1.out]at r1 d3 d4
  exact⟨hB,(hW.block _ (by omega)).trans (Qd rfl),r1,HP.out.imp hB hB.size fun _ _ _ h=>h,d3,d4⟩
 obtain⟨V,HV⟩:∃ V,Hid (readV N.1 path=V):=⟨_,rfl⟩
 obtain⟨I,HI⟩:∃ V,Hid (readI N.1 path=V):=⟨_,rfl⟩
 rw[HV.out,HI.out]
 clear h hv1 hrN
 go_enter Tryz.func21,Tryz.ntmps21
 obtain⟨hB,_,r1,r2,y0,y1⟩:=HX.out _ (Below.refl _ _)
 have hgw:g≠w.heap.size:=by omega
 go_wp2_with fail
 refine (qKn N.1 path _ _ _ _ r1 r2 hN).mono ?_
 rw[HV.out,HI.out]
 obtain⟨vk,von,vn,vls⟩:=V
 rintro e w6 ⟨vl6,rfl,hsl6,hb6⟩
 obtain⟨A6,n6,hv6⟩:=hsl6.shape
 subst hv6
 have hB6:Below (w.heap.size+1) (w.alloc (.cells #[.int .i64 0,.bool false,.int .i64 0,.slice none 0 0] 55)) w6:=hb6.mono (by simp)
 have HB6:=hid hB6
 have HSL6:=hid hsl6
 obtain⟨hBw,hG,_⟩:=HX.out _ hB6
 have HG:=hid hG
 have HBW:=hid hBw
 obtain⟨k0,k1,k2,k3,z0,z1,z2,z3⟩:=bz4 hG
 have hlt6:=lt_of_block hG
 clear hG hBw hB6 hb6 hsl6 hB r1 r2 y0 y1
 go_wp2_with fail
 obtain⟨r0,r1,r2,r3,hK,hS⟩:=box4 HG.out (.int .i64 vk) (.bool von) (.int .i64 vn) (.slice A6 vls.length n6)
 have hBW:=Za HBW.out (show w.heap.size<=w.heap.size from Nat.le_refl _) (.int .i64 vk) (.bool von) (.int .i64 vn) (.slice A6 vls.length n6)
 exact bodyPost_ret (v:=.tuple #[.agg #[.int .i64 vk,.bool von,.int .i64 vn,.slice A6 vls.length n6],.int .i64 I]) (by simp[results,Tryz.results21,go_sem,r0,r1,r2,r3]<;>rfl) rfl ⟨_,rfl,HSL6.out.up (fun b hb=>hK b (by have:=hb.1;simp only[World.size_alloc]at this;omega)) (fun b hb=>⟨by have:=hb.1;simp only[World.size_alloc]at this;omega,by rw[hS];exact hb.2⟩) (fun _ _ _ h=>h),hBW⟩
end
def NoKd (x:Int)(n:Nat):Prop:=(0<n->(x==102)=false)/\(1<n->(x==115)=false)/\(2<n->(x==99)=false)/\(3<n->(x==114)=false)/\(4<n->(x==109)=false)
theorem let0:((({ data:=#[102,115,99,114,109] }:ByteArray)[0]'(by decide)).toNat:Int)=102:=rfl
theorem let1:((({ data:=#[102,115,99,114,109] }:ByteArray)[1]'(by decide)).toNat:Int)=115:=rfl
theorem let2:((({ data:=#[102,115,99,114,109] }:ByteArray)[2]'(by decide)).toNat:Int)=99:=rfl
theorem let3:((({ data:=#[102,115,99,114,109] }:ByteArray)[3]'(by decide)).toNat:Int)=114:=rfl
theorem let4:((({ data:=#[102,115,99,114,109] }:ByteArray)[4]'(by decide)).toNat:Int)=109:=rfl
theorem Xk (k:ByteArray)(w:World)(hk:k.size<=Big) :
  Calls Tryz.prog 51 #[.string k] w fun e w'=>e=.returned (.int .i64 (kindB k))/\Below w.heap.size w w':=by
 unfold Big at hk
 by_cases h0:0<k.size
 ·have HK:=hid (qZc h0)
  go_enter Tryz.func51,Tryz.ntmps51
  go_wp2_with fail
  go_loopw [7] (fun i wr=>∃ n:Nat,n<=5/\i=.int .i64 n/\Hid (NoKd (k[0].toNat:Int) n)/\Below w.heap.size w wr) (fun i _=>5-(intOf i).toNat)
  case atStart=>exact⟨0,by omega,rfl,⟨fun h=>by omega,fun h=>by omega,fun h=>by omega,fun h=>by omega,fun h=>by omega⟩,Below.refl _ _⟩
  case round=>
   obtain⟨n,hn,rfl,hno,hb⟩:=hrel
   rcases (show n=0∨n=1∨n=2∨n=3∨n=4∨n=5 by omega) with rfl|rfl|rfl|rfl|rfl|rfl
   ·skip
    go_upto_region 5 with (fail)
    refine Qc wr.heap.size (by kernel_rfl) (by kernel_rfl) ?_
    repeat (go_big_quiet_step (fail))
    refine wpQuiet_nil ?_
    intro wq hbq
    have hB:=hb.trans (hbq.mono hb.size)
    clear hbq
    simp only[let0]
    go_wp2_with fail
    all_goals first
     |(refine⟨⟨1,by omega,by go_num,⟨fun _=>by assumption,fun h=>(by omega),fun h=>(by omega),fun h=>(by omega),fun h=>(by omega)⟩,hB⟩,?_⟩;simp[intOf];done)
     |(go_ret;exact⟨Qn (by rw[HK.out];simp_all),hB⟩)
     |trace_state
   ·have k0:=hno.out.1 (by omega)
    have HN0:=hid k0
    go_upto_region 5 with (fail)
    refine Qc wr.heap.size (by kernel_rfl) (by kernel_rfl) ?_
    repeat (go_big_quiet_step (fail))
    refine wpQuiet_nil ?_
    intro wq hbq
    have hB:=hb.trans (hbq.mono hb.size)
    clear hbq
    simp only[let1]
    go_wp2_with fail
    all_goals first
     |(refine⟨⟨2,by omega,by go_num,⟨fun _=>HN0.out,fun _=>by assumption,fun h=>(by omega),fun h=>(by omega),fun h=>(by omega)⟩,hB⟩,?_⟩;simp[intOf];done)
     |(go_ret;exact⟨Qn (by rw[HK.out];simp_all),hB⟩)
     |trace_state
   ·have k0:=hno.out.1 (by omega)
    have HN0:=hid k0
    have k1:=hno.out.2.1 (by omega)
    have HN1:=hid k1
    go_upto_region 5 with (fail)
    refine Qc wr.heap.size (by kernel_rfl) (by kernel_rfl) ?_
    repeat (go_big_quiet_step (fail))
    refine wpQuiet_nil ?_
    intro wq hbq
    have hB:=hb.trans (hbq.mono hb.size)
    clear hbq
    simp only[let2]
    go_wp2_with fail
    all_goals first
     |(refine⟨⟨3,by omega,by go_num,⟨fun _=>HN0.out,fun _=>HN1.out,fun _=>by assumption,fun h=>(by omega),fun h=>(by omega)⟩,hB⟩,?_⟩;simp[intOf];done)
     |(go_ret;exact⟨Qn (by rw[HK.out];simp_all),hB⟩)
     |trace_state
   ·have k0:=hno.out.1 (by omega)
    have HN0:=hid k0
    have k1:=hno.out.2.1 (by omega)
    have HN1:=hid k1
    have k2:=hno.out.2.2.1 (by omega)
    have HN2:=hid k2
    go_upto_region 5 with (fail)
    refine Qc wr.heap.size (by kernel_rfl) (by kernel_rfl) ?_
    repeat (go_big_quiet_step (fail))
    refine wpQuiet_nil ?_
    intro wq hbq
    have hB:=hb.trans (hbq.mono hb.size)
    clear hbq
    simp only[let3]
    go_wp2_with fail
    all_goals first
     |(refine⟨⟨4,by omega,by go_num,⟨fun _=>HN0.out,fun _=>HN1.out,fun _=>HN2.out,fun _=>by assumption,fun h=>(by omega)⟩,hB⟩,?_⟩;simp[intOf];done)
     |(go_ret;exact⟨Qn (by rw[HK.out];simp_all),hB⟩)
     |trace_state
   ·have k0:=hno.out.1 (by omega)
    have HN0:=hid k0
    have k1:=hno.out.2.1 (by omega)
    have HN1:=hid k1
    have k2:=hno.out.2.2.1 (by omega)
    have HN2:=hid k2
    have k3:=hno.out.2.2.2.1 (by omega)
    have HN3:=hid k3
    go_upto_region 5 with (fail)
    refine Qc wr.heap.size (by kernel_rfl) (by kernel_rfl) ?_
    repeat (go_big_quiet_step (fail))
    refine wpQuiet_nil ?_
    intro wq hbq
    have hB:=hb.trans (hbq.mono hb.size)
    clear hbq
    simp only[let4]
    go_wp2_with fail
    all_goals first
     |(refine⟨⟨5,by omega,by go_num,⟨fun _=>HN0.out,fun _=>HN1.out,fun _=>HN2.out,fun _=>HN3.out,fun _=>by assumption⟩,hB⟩,?_⟩;simp[intOf];done)
     |(go_ret;exact⟨Qn (by rw[HK.out];simp_all),hB⟩)
     |trace_state
   ·have k0:=hno.out.1 (by omega)
    have HN0:=hid k0
    clear k0
    have k1:=hno.out.2.1 (by omega)
    have HN1:=hid k1
    clear k1
    have k2:=hno.out.2.2.1 (by omega)
    have HN2:=hid k2
    clear k2
    have k3:=hno.out.2.2.2.1 (by omega)
    have HN3:=hid k3
    clear k3
    have k4:=hno.out.2.2.2.2 (by omega)
    have HN4:=hid k4
    clear k4
    go_wp2_with fail
    go_ret
    exact⟨Qn (by rw[HK.out,HN0.out,HN1.out,HN2.out,HN3.out,HN4.out];rfl),hb⟩
 ·rw[qJb h0]
  have h0':k.size=0:=by omega
  go_enter Tryz.func51,Tryz.ntmps51
  go_wp2_with fail
  go_loopw [7] (fun i wr=>∃ n:Nat,n<=5/\i=.int .i64 n/\Below w.heap.size w wr) (fun i _=>5-(intOf i).toNat)
  case atStart=>exact⟨0,by omega,rfl,Below.refl _ _⟩
  case round=>
   obtain⟨n,hn,rfl,hb⟩:=hrel
   by_cases h5:n<5
   ·go_upto_region 5 with (fail)
    refine Qc wr.heap.size (by kernel_rfl) (by kernel_rfl) ?_
    repeat (go_big_quiet_step (fail))
    refine wpQuiet_nil ?_
    intro wq hbq
    have hB:=hb.trans (hbq.mono hb.size)
    clear hbq
    go_wp2_with fail
    all_goals (refine⟨⟨n+1,by omega,by go_num,hB⟩,?_⟩;simp[intOf];omega)
   ·obtain rfl:n=5:=by omega
    go_wp2_with fail
    go_ret
    exact⟨rfl,hb⟩
theorem zXd {α:Type}{f:α->Bool}{l:List α}(h:∀ (j:Nat) x,j<l.length->l[j]?=some x->f x=false):l.any f=false:=by
 rw[List.any_eq_false]
 intro x hx
 obtain⟨j,hj⟩:=List.getElem?_of_mem hx
 rw[h j x (List.getElem?_eq_some_iff.1 hj).1 hj];simp
theorem qXg {α:Type}{f:α->Bool}{l:List α}{j:Nat}{x:α}(h:l[j]?=some x)(hf:f x=true):l.any f=true:=List.any_eq_true.2 ⟨x,List.mem_of_getElem? h,hf⟩
theorem qXh (p:List ByteArray)(vp:Value)(w:World)(h:SlP w w.heap.size 1 StE vp p) :
  Calls Tryz.prog 49 #[vp] w fun e w'=>e=.returned (.int .i64 (pathI p))/\Below w.heap.size w w':=by
 obtain⟨A,c,rfl,c1,c2,c3⟩:=h
 unfold Big at c2
 go_enter Tryz.func49,Tryz.ntmps49
 by_cases h1:p.length=0
 ·have hP:pathI p=1:=by unfold pathI;rw[if_pos (.inl (by omega))]
  rw[hP]
  clear hP
  go_wp2_with fail
  go_ret
  exact⟨rfl,Below.refl _ _⟩
 by_cases h3:3<p.length
 ·have hP:pathI p=1:=by unfold pathI;rw[if_pos (.inr (.inl h3))]
  rw[hP]
  clear hP
  have h1':((p.length:Int)==0)=false:=by simpa using h1
  go_wp2_with fail
  go_ret
  exact⟨rfl,Below.refl _ _⟩
 have h1':((p.length:Int)==0)=false:=by simpa using h1
 have h3':decide ((3:Int)<p.length)=false:=by simp;omega
 go_wp2_with fail
 go_loopw [15] (fun i wr=>∃ k:Nat,k<=p.length/\i=.int .i64 k/\Hid (∀ (j:Nat) x,j<k->p[j]?=some x->Q6 x=false)/\Below w.heap.size w wr) (fun i _=>p.length-(intOf i).toNat)
 case atStart=>exact⟨0,Nat.zero_le _,rfl,fun j x hj=>absurd hj (Nat.not_lt_zero _),Below.refl _ _⟩
 case round=>
  obtain⟨k,hk,rfl,hno,hb⟩:=hrel
  by_cases hlt:k<p.length
  ·obtain⟨x,hx⟩:∃ x,p[k]?=some x:=⟨_,List.getElem?_eq_getElem hlt⟩
   obtain⟨b,off,rfl,hbB,hc⟩:=c3 (by rintro rfl;simp at hlt)
   obtain⟨cs,⟨rfl,hok⟩,_,hu⟩:=hc k _ hx
   have e0:wr.cell? ⟨b,off+k,none⟩=some (.string x):=(hb.cell hbB).trans (by simpa using hu 0 _ rfl)
   have HX:=hid hx
   have HOK:=hid hok
   unfold Big at hok
   clear hu hc hx
   by_cases hl:30<x.size
   ·have HB:Hid (Q6 x=true):=by unfold Hid Q6;simp[hl]
    go_wp2_with fail
    go_ret
    exact⟨Qn (by unfold pathI;rw[if_pos (.inr (.inr (qXg HX.out HB.out)))]),hb⟩
   ·go_wp2_with fail
    refine (Xk x _ HOK.out).mono ?_
    by_cases hk0:kindB x=0
    ·have HB:Hid (Q6 x=true):=by unfold Hid Q6;simp[hk0]
     rw[hk0]
     rintro e w1 ⟨rfl,hb1⟩
     have hB:=hb.trans (hb1.mono hb.size)
     clear hk0
     go_wp2_with fail
     go_ret
     exact⟨Qn (by unfold pathI;rw[if_pos (.inr (.inr (qXg HX.out HB.out)))]),hB⟩
    ·have HB:Hid (Q6 x=false):=by unfold Hid Q6;simp[hk0];omega
     have hkz:(kindB x==0)=false:=by simpa using hk0
     rintro e w1 ⟨rfl,hb1⟩
     have hB:=hb.trans (hb1.mono hb.size)
     clear hk0
     go_wp2_with fail
     go_roundw
     case rel=>
      refine⟨k+1,by omega,by go_num,fun j y hj hy=>?_,hB⟩
      rcases (show j<k∨j=k by omega) with h|rfl
      ·exact hno.out j y h hy
      ·have:=HX.out;rw[hy]at this;cases this;exact HB.out
     case measure=>simp[intOf];omega
  ·obtain rfl:k=p.length:=by omega
   have HN:Hid (p.any Q6=false):=zXd hno.out
   have HPI:Hid (pathI p=if p.dropLast.any noMap then 6 else 0):=by unfold Hid pathI;rw[if_neg (by rintro (h|h|h)<;>first|omega|(rw[HN.out]at h;cases h))]
   obtain⟨wz,hwz⟩:∃ z,z=wr:=⟨_,rfl⟩
   subst hwz
   go_wp2_with fail
   go_loopw [35] (fun i wr=>∃ k:Nat,k<=p.length/\i=.int .i64 k/\Hid (∀ (j:Nat) x,j<k->p.dropLast[j]?=some x->noMap x=false)/\Below w.heap.size w wr) (fun i _=>p.length-(intOf i).toNat)
   case atStart=>exact⟨0,Nat.zero_le _,rfl,fun j x hj=>absurd hj (Nat.not_lt_zero _),hb⟩
   case round=>
    obtain⟨k,hk,rfl,hno2,hb⟩:=hrel
    by_cases hlt:k<p.length
    ·obtain⟨x,hx⟩:∃ x,p[k]?=some x:=⟨_,List.getElem?_eq_getElem hlt⟩
     obtain⟨b,off,rfl,hbB,hc⟩:=c3 (by rintro rfl;simp at hlt)
     obtain⟨cs,⟨rfl,hok⟩,_,hu⟩:=hc k _ hx
     have e0:wr.cell? ⟨b,off+k,none⟩=some (.string x):=(hb.cell hbB).trans (by simpa using hu 0 _ rfl)
     have HX:=hid hx
     have HOK:=hid hok
     clear hu hc hx hok
     by_cases hl:k+1<p.length
     ·have HD:Hid (p.dropLast[k]?=some x):=by unfold Hid;rw[List.dropLast_eq_take,List.getElem?_take,if_pos (by omega)];exact HX.out
      have hl':(k:Int)<(p.length:Int)-1:=by omega
      go_wp2_with fail
      refine (Xk x _ HOK.out).mono ?_
      by_cases hk5:kindB x=5
      ·have HB:Hid (noMap x=false):=by unfold Hid noMap;simp[hk5]
       rw[hk5]
       rintro e w1 ⟨rfl,hb1⟩
       have hB:=hb.trans (hb1.mono hb.size)
       clear hk5
       go_wp2_with fail
       go_roundw
       case rel=>
        refine⟨k+1,by omega,by go_num,fun j y hj hy=>?_,hB⟩
        rcases (show j<k∨j=k by omega) with h|rfl
        ·exact hno2.out j y h hy
        ·have:=HD.out;rw[hy]at this;cases this;exact HB.out
       case measure=>simp[intOf];omega
      ·have HB:Hid (noMap x=true):=by unfold Hid noMap;simp[hk5]
       have hkz:(kindB x==5)=false:=by simpa using hk5
       rintro e w1 ⟨rfl,hb1⟩
       have hB:=hb.trans (hb1.mono hb.size)
       clear hk5
       go_wp2_with fail
       go_ret
       exact⟨Qn (by rw[HPI.out,qXg HD.out HB.out];rfl),hB⟩
     ·have hl':¬(k:Int)<(p.length:Int)-1:=by omega
      go_wp2_with fail
      go_roundw
      case rel=>
       refine⟨k+1,by omega,by go_num,fun j y hj hy=>?_,hb⟩
       have hjl:=(List.getElem?_eq_some_iff.1 hy).1
       rw[List.length_dropLast]at hjl
       exact hno2.out j y (by omega) hy
      case measure=>simp[intOf];omega
    ·obtain rfl:k=p.length:=by omega
     have HN2:Hid (p.dropLast.any noMap=false):=zXd fun j x hj hx=>hno2.out j x (by rw[List.length_dropLast]at hj;omega) hx
     go_wp2_with fail
     go_ret
     exact⟨Qn (by rw[HPI.out,HN2.out];rfl),hb⟩
theorem qUn (o:Opr)(vp:Value)(w:World)(h:SlP w w.heap.size 1 StE vp o.path)(ho:o.Ok) :
  Calls Tryz.prog 101 #[.agg #[vp,.int .i64 o.act,.string o.s,.int .i64 o.n]] w fun e w'=>e=.returned (.int .i64 (opI o))/\Below w.heap.size w w':=by
 have HC:Hid (∀ w',Below w.heap.size w w'->SlP w' w'.heap.size 1 StE vp o.path):=fun w' hb=>h.imp hb hb.size fun _ _ _ h=>h
 obtain⟨A,c,rfl,c1,c2,c3⟩:=h
 have hs:=ho.s
 unfold Big at c2 hs
 obtain⟨path,act,s,n⟩:=o
 simp only at HC c1 c2 c3 hs ⊢
 have HX:Hid (∀ W,Below (w.heap.size+1) (w.alloc (.cells #[.slice A path.length c,.int .i64 act,.string s,.int .i64 n] 65)) W->(Below w.heap.size w W/\SlP W W.heap.size 1 StE (.slice A path.length c) path/\W.cell? ⟨w.heap.size,0,none⟩=some (.slice A path.length c)/\W.cell? ⟨w.heap.size,1,none⟩=some (.int .i64 act)/\W.cell? ⟨w.heap.size,2,none⟩=some (.string s)/\W.cell? ⟨w.heap.size,3,none⟩=some (.int .i64 n))):=fun W hW=>by
  have g0:W.heap[w.heap.size]?=some (.cells #[.slice A path.length c,.int .i64 act,.string s,.int .i64 n] 65 (0,0)):=(hW.block _ (by omega)).trans (Qd rfl)
  have hB:Below w.heap.size w W:=((Below.refl _ w).alloc (Nat.le_refl _) _).trans (hW.mono (by omega))
  exact⟨hB,HC.out _ hB,Qa (i:=0) g0,Qa (i:=1) g0,Qa (i:=2) g0,Qa (i:=3) g0⟩
 go_enter Tryz.func101,Tryz.ntmps101
 go_wp2_with fail
 obtain⟨hB,hp,q0,q1,q2,q3⟩:=HX.out _ (Below.refl _ _)
 refine (qXh path _ _ hp).mono ?_
 rintro e w1 ⟨rfl,hb1⟩
 have HB1:=hid (hb1.mono (show w.heap.size+1<=_ by simp))
 clear hB hp q0 q1 q2 q3 hb1
 obtain⟨hB,hp,q0,q1,q2,q3⟩:=HX.out _ HB1.out
 by_cases hpz:pathI path=0
 case neg=>
  have hO:Hid (opI ⟨path,act,s,n⟩=pathI path):=by unfold Hid opI;simp only;rw[if_pos hpz]
  have hne:(pathI path==0)=false:=by simpa using hpz
  clear hpz
  go_wp2_with fail
  go_ret
  exact⟨Qn hO.out.symm,hB⟩
 have hpl:=(Q2 hpz).1
 have hpu:=(Q2 hpz).2.1
 have HPZ:=hid hpz
 rw[hpz]
 clear hpz
 obtain⟨bq,offq,hAq,hbq,hcq⟩:=c3 (by rintro rfl;simp at hpl)
 subst hAq
 obtain⟨cs,⟨rfl,hok⟩,_,hu⟩:=hcq (path.length-1) _ (Z1 hpl)
 have e0:=(hB.cell (p:=⟨bq,offq+(path.length-1),none⟩) hbq).trans (by simpa using hu 0 _ rfl)
 have HOK:=hid hok
 have hbq1:bq<w1.heap.size:=by have:=hB.size;omega
 have hl1:w.heap.size<w1.heap.size:=by have:=HB1.out.size;simp at this;omega
 clear hu hcq c3 hok
 go_upto_region 4 with (fail)
 have HQK:=hid (fun (w2:World) (_:Below w1.heap.size w1 w2)=>Xk (lastK path) w2 HOK.out)
 have HQA:=hid (fun (w2:World) (_:Below w1.heap.size w1 w2)=>qUh act (kindB (lastK path)) w2)
 have f0:=Qh (B:=w1.heap.size) q0 (by simpa using hl1)
 have f1:=Qh (B:=w1.heap.size) q1 (by simpa using hl1)
 have f2:=Qh (B:=w1.heap.size) e0 (by simpa using hbq1)
 refine Qc w1.heap.size (by kernel_rfl) (by kernel_rfl) ?_
 repeat (go_big_quiet_step (first|(go_at_call 51;with_reducible exact Calls.far_all (Nat.le_refl _) HQK.out)|(go_at_call 149;with_reducible exact Calls.far_all (Nat.le_refl _) HQA.out)))
 refine wpQuiet_nil ?_
 intro w2 hb2
 have HB3:=hid (HB1.out.trans (hb2.mono (by omega)))
 clear f0 f1 f2 hB hp q0 q1 q2 q3 hb2 e0 HQK HQA
 obtain⟨hB,hp,q0,q1,q2,q3⟩:=HX.out _ HB3.out
 cases ha:actB act (kindB (lastK path))
 ·have HO:Hid (opI ⟨path,act,s,n⟩=6):=by unfold Hid opI;simp only;rw[if_neg (by rw[HPZ.out];simp),if_pos (by rw[ha];rfl)]
  clear ha
  go_wp2_with fail
  go_ret
  exact⟨Qn HO.out.symm,hB⟩
 have HA':=hid ha
 have hac:act=1∨act=2∨act=3∨act=4∨act=5∨act=6∨act=7:=by
  unfold actB at ha
  split at ha
  ·omega
  ·split at ha
   ·omega
   ·split at ha
    ·omega
    ·split at ha
     ·omega
     ·have:=of_decide_eq_true ha;omega
 clear ha
 rcases hac with rfl|rfl|rfl|rfl|rfl|rfl|rfl
 ·have HA:=HA'
  have HE:Hid (∀ (s:ByteArray) (n:Int),opI ⟨path,1,s,n⟩=if s.size=0/\n=0 then 0 else 1):=by
   intro s n
   rw[Zh HPZ.out HA.out]
   unfold opTxt opNum keyB
   simp
  go_wp2_with fail
  all_goals (go_ret;refine⟨Qn ?_,hB⟩;rw[HE.out])
  all_goals (try simp only[Bool.not_eq_eq_eq_not]at *)
  all_goals (try simp only[Bool.not_true]at *)
  all_goals (try simp only[Bool.not_false]at *)
  all_goals (try simp only[bne_iff_ne]at *)
  all_goals (try simp only[ne_eq]at *)
  all_goals (try simp only[bne_eq_false_iff_eq]at *)
  all_goals (try simp only[Z3]at *)
  all_goals (try simp only[tol_f]at *)
  all_goals (try simp only[tol_t]at *)
  all_goals (first|(exfalso;omega)|(rw[if_pos (by omega)];done)|(rw[if_neg (by omega)];done))
 ·have HA:=HA'
  have HE:Hid (∀ (s:ByteArray) (n:Int),opI ⟨path,2,s,n⟩=if s.size=0/\n=0 then 0 else 1):=by
   intro s n
   rw[Zh HPZ.out HA.out]
   unfold opTxt opNum keyB
   simp
  go_wp2_with fail
  all_goals (go_ret;refine⟨Qn ?_,hB⟩;rw[HE.out])
  all_goals (try simp only[Bool.not_eq_eq_eq_not]at *)
  all_goals (try simp only[Bool.not_true]at *)
  all_goals (try simp only[Bool.not_false]at *)
  all_goals (try simp only[bne_iff_ne]at *)
  all_goals (try simp only[ne_eq]at *)
  all_goals (try simp only[bne_eq_false_iff_eq]at *)
  all_goals (try simp only[Z3]at *)
  all_goals (try simp only[tol_f]at *)
  all_goals (try simp only[tol_t]at *)
  all_goals (first|(exfalso;omega)|(rw[if_pos (by omega)];done)|(rw[if_neg (by omega)];done))
 ·have HA:=HA'
  have HE:Hid (∀ (s:ByteArray) (n:Int),opI ⟨path,3,s,n⟩=if (1<=s.size/\s.size<=30)/\n=0 then 0 else 1):=by
   intro s n
   rw[Zh HPZ.out HA.out]
   unfold opTxt opNum keyB
   simp
  go_wp2_with fail
  refine (QV s _).mono ?_
  cases hks:keyB s
  ·rintro e w4 ⟨rfl,hb4⟩
   have hB4:=hB.trans (hb4.mono hB.size)
   have HKS:Hid (¬(1<=s.size/\s.size<=30)):=by unfold Hid;unfold keyB at hks;simpa using hks
   clear hks
   go_wp2_with fail
   go_ret
   exact⟨Qn (by rw[HE.out,if_neg (fun h=>HKS.out h.1)]),hB4⟩
  ·rintro e w4 ⟨rfl,hb4⟩
   have HB4:=hid (HB3.out.trans (hb4.mono (by have:=HB3.out.size;simp at this;omega)))
   have HKS:Hid (1<=s.size/\s.size<=30):=by unfold Hid;unfold keyB at hks;simpa using hks
   clear hB hp q0 q1 q2 q3 hb4 hks
   obtain⟨hB,hp,q0,q1,q2,q3⟩:=HX.out _ HB4.out
   go_wp2_with fail
   all_goals (go_ret;refine⟨Qn ?_,hB⟩;rw[HE.out])
   all_goals (have hks2:=HKS.out)
   all_goals (try simp only[Bool.not_eq_eq_eq_not]at *)
   all_goals (try simp only[Bool.not_true]at *)
   all_goals (try simp only[Bool.not_false]at *)
   all_goals (try simp only[bne_iff_ne]at *)
   all_goals (try simp only[ne_eq]at *)
   all_goals (try simp only[bne_eq_false_iff_eq]at *)
   all_goals (first|(exfalso;omega)|(rw[if_pos (by omega)];done)|(rw[if_neg (by omega)];done))
 ·have HA:=HA'
  have HE:Hid (∀ (s:ByteArray) (n:Int),opI ⟨path,4,s,n⟩=if (1<=s.size/\s.size<=30)/\n=0 then 0 else 1):=by
   intro s n
   rw[Zh HPZ.out HA.out]
   unfold opTxt opNum keyB
   simp
  go_wp2_with fail
  refine (QV s _).mono ?_
  cases hks:keyB s
  ·rintro e w4 ⟨rfl,hb4⟩
   have hB4:=hB.trans (hb4.mono hB.size)
   have HKS:Hid (¬(1<=s.size/\s.size<=30)):=by unfold Hid;unfold keyB at hks;simpa using hks
   clear hks
   go_wp2_with fail
   go_ret
   exact⟨Qn (by rw[HE.out,if_neg (fun h=>HKS.out h.1)]),hB4⟩
  ·rintro e w4 ⟨rfl,hb4⟩
   have HB4:=hid (HB3.out.trans (hb4.mono (by have:=HB3.out.size;simp at this;omega)))
   have HKS:Hid (1<=s.size/\s.size<=30):=by unfold Hid;unfold keyB at hks;simpa using hks
   clear hB hp q0 q1 q2 q3 hb4 hks
   obtain⟨hB,hp,q0,q1,q2,q3⟩:=HX.out _ HB4.out
   go_wp2_with fail
   all_goals (go_ret;refine⟨Qn ?_,hB⟩;rw[HE.out])
   all_goals (have hks2:=HKS.out)
   all_goals (try simp only[Bool.not_eq_eq_eq_not]at *)
   all_goals (try simp only[Bool.not_true]at *)
   all_goals (try simp only[Bool.not_false]at *)
   all_goals (try simp only[bne_iff_ne]at *)
   all_goals (try simp only[ne_eq]at *)
   all_goals (try simp only[bne_eq_false_iff_eq]at *)
   all_goals (first|(exfalso;omega)|(rw[if_pos (by omega)];done)|(rw[if_neg (by omega)];done))
 ·have HA:=HA'
  have HE:Hid (∀ (s:ByteArray) (n:Int),opI ⟨path,5,s,n⟩=if s.size=0/\-1099511627776<=n/\n<=1099511627776 then 0 else 1):=by
   intro s n
   rw[Zh HPZ.out HA.out]
   unfold opTxt opNum keyB
   simp
  go_wp2_with fail
  all_goals (go_ret;refine⟨Qn ?_,hB⟩;rw[HE.out])
  all_goals (try simp only[Bool.not_eq_eq_eq_not]at *)
  all_goals (try simp only[Bool.not_true]at *)
  all_goals (try simp only[Bool.not_false]at *)
  all_goals (try simp only[bne_iff_ne]at *)
  all_goals (try simp only[ne_eq]at *)
  all_goals (try simp only[bne_eq_false_iff_eq]at *)
  all_goals (try simp only[Z3]at *)
  all_goals (try simp only[tol_f]at *)
  all_goals (try simp only[tol_t]at *)
  all_goals (first|(exfalso;omega)|(rw[if_pos (by omega)];done)|(rw[if_neg (by omega)];done))
 ·have HA:=HA'
  have HE:Hid (∀ (s:ByteArray) (n:Int),opI ⟨path,6,s,n⟩=if s.size<=30/\n=0 then 0 else 1):=by
   intro s n
   rw[Zh HPZ.out HA.out]
   unfold opTxt opNum keyB
   simp
  go_wp2_with fail
  all_goals (go_ret;refine⟨Qn ?_,hB⟩;rw[HE.out])
  all_goals (try simp only[Bool.not_eq_eq_eq_not]at *)
  all_goals (try simp only[Bool.not_true]at *)
  all_goals (try simp only[Bool.not_false]at *)
  all_goals (try simp only[bne_iff_ne]at *)
  all_goals (try simp only[ne_eq]at *)
  all_goals (try simp only[bne_eq_false_iff_eq]at *)
  all_goals (try simp only[Z3]at *)
  all_goals (try simp only[tol_f]at *)
  all_goals (try simp only[tol_t]at *)
  all_goals (first|(exfalso;omega)|(rw[if_pos (by omega)];done)|(rw[if_neg (by omega)];done))
 ·have HA:=HA'
  have HE:Hid (∀ (s:ByteArray) (n:Int),opI ⟨path,7,s,n⟩=if s.size=0/\n=0 then 0 else 1):=by
   intro s n
   rw[Zh HPZ.out HA.out]
   unfold opTxt opNum keyB
   simp
  go_wp2_with fail
  all_goals (go_ret;refine⟨Qn ?_,hB⟩;rw[HE.out])
  all_goals (try simp only[Bool.not_eq_eq_eq_not]at *)
  all_goals (try simp only[Bool.not_true]at *)
  all_goals (try simp only[Bool.not_false]at *)
  all_goals (try simp only[bne_iff_ne]at *)
  all_goals (try simp only[ne_eq]at *)
  all_goals (try simp only[bne_eq_false_iff_eq]at *)
  all_goals (try simp only[Z3]at *)
  all_goals (try simp only[tol_f]at *)
  all_goals (try simp only[tol_t]at *)
  all_goals (first|(exfalso;omega)|(rw[if_pos (by omega)];done)|(rw[if_neg (by omega)];done))
theorem qKq (t:Tr)(ve vk:Value)(w:World)(h:t.rd w w.heap.size ve vk)(hN:t.sz<=90000)(hR:∀ d∈ownD t,0<=d.n/\d.n<=1099511627778) :
  Calls Tryz.prog 152 #[.agg #[ve,vk]] w (RetO w 45 3 (fun _=>SpE) (ctxOf (ownD t))):=by
 obtain⟨es,ks⟩:=t
 have hsl:=(QE.1 h).1
 have hz:es.length<=90000:=by rw[Tr.sz]at hN;omega
 have hD:(Tr.mk es []).dots=ownD (.mk es ks):=by unfold ownD;rw[Tr.dots,Tr.dotsL,List.append_nil];rfl
 obtain⟨A3,n3,A4,n4,rfl,rfl⟩:=Qk h
 have HE:Hid (∀ w',Below w.heap.size w w'->(Tr.mk es []).rd w' w'.heap.size (.slice A3 es.length n3) (.slice none 0 0)):=fun w' hb=>QE.2 ⟨hsl.imp hb hb.size fun _ _ _ h=>h,SlP.nil⟩
 have HRR:Hid (∀ d∈(Tr.mk es []).dots,0<=d.n/\d.n<=1099511627778):=by unfold Hid;rw[hD];exact hR
 have hb0:Below w.heap.size w (w.alloc (.cells #[.slice A3 (Tr.mk es ks).es.length n3,.slice A4 (Tr.mk es ks).ks.length n4] 25)):=(Below.refl _ w).alloc (Nat.le_refl _) _
 clear h hsl
 go_enter Tryz.func152,Tryz.ntmps152
 go_wp2_with fail
 refine (Zo (.mk es []) _ _ _ (HE.out _ hb0) (by rw[Tr.sz,Tr.szL];omega) HRR.out).mono ?_
 rw[hD]
 rintro e w1 ⟨v1,rfl,ho1,hb1⟩
 go_wp2_with fail
 go_ret
 exact⟨_,rfl,ho1.mono (by simp),hb0.trans (hb1.mono (by simp))⟩
theorem zYa {d:Dt}{l:List Dt}(hd:d.right=true)(hl:∀ x∈l,x.right=true):ctxOf (d :: l)=ctxBy (ctxOf l) [⟨d.dc,d.n,d.n⟩] 0:=by
 rw[Yv,Xg]
 refine qYf fun i hi=>?_
 rw[K5 l hi]
 have hb:=(VG hd).2
 have hda:∀ x∈d :: l,x.right=true:=fun x hx=>by
  rcases List.mem_cons.1 hx with rfl|hx
  ·exact hd
  ·exact hl x hx
 obtain⟨a1,a2⟩:=ZU (J5 hda (i:Int))
 obtain⟨b1,b2⟩:=ZU (J5 hl (i:Int))
 have hp:∀ r∈partL [(⟨d.dc,d.n,d.n⟩:Sp)] (i:Int),runOk r:=fun r hr=>by
  unfold partL at hr
  obtain⟨s,hs,rfl⟩:=List.mem_map.1 hr
  have:=(List.mem_filter.1 hs).1
  simp at this;subst this
  exact⟨hb.1,Int.le_refl _,hb.2⟩
 obtain⟨c1,c2⟩:=Yl (a:=ofL (numsL l (i:Int))) (b:=partL [(⟨d.dc,d.n,d.n⟩:Sp)] (i:Int)) 0 (J6 _ none b1) hp
 refine YH _ _ none none a1 c1 fun n=>?_
 rw[c2,Bool.eq_iff_iff,a2]
 have hn:(hasL (ofL (numsL l (i:Int))) n=true)↔n∈numsL l (i:Int):=b2 n
 simp only[inn,if_neg (show ¬((0:Int)=2) by decide),if_neg (show ¬((0:Int)=1) by decide),Bool.or_eq_true,hn]
 by_cases e:d.dc=(i:Int)
 ·have h1:numsL (d :: l) (i:Int)=d.n :: numsL l (i:Int):=by simp[numsL,e]
  have h2:partL [(⟨d.dc,d.n,d.n⟩:Sp)] (i:Int)=[(d.n,d.n)]:=by simp[partL,e]
  rw[h1,h2,List.mem_cons]
  simp[hasL,inR]
  constructor
  ·rintro (h|h)
   ·exact .inr ⟨by omega,by omega⟩
   ·exact .inl h
  ·rintro (h|⟨h,k⟩)
   ·exact .inr h
   ·exact .inl (by omega)
 ·have h1:numsL (d :: l) (i:Int)=numsL l (i:Int):=by simp[numsL,e]
  have h2:partL [(⟨d.dc,d.n,d.n⟩:Sp)] (i:Int)=[]:=by simp[partL,e]
  rw[h1,h2];simp[hasL]
theorem zYe (a b d e:Int)(w:World):(binOp .neq 78 (.agg #[.int .i64 a,.int .i64 b]) (.agg #[.int .i64 d,.int .i64 e])).run Tryz.prog w=.ok (.bool (!decide (a=d/\b=e))) w:=by
 have u3:=Tryz.underlying3
 have u2:=Tryz.underlying2
 have hS:Tryz.prog.underlying 78=some (.struct (Tryz.prog.fieldsOf 78)):=by kernel_rfl
 have hp:Tryz.prog.stoodInHeld 78=false:=by kernel_rfl
 rw[run_neq_struct,show (10000:Nat)=9999+1 from rfl,run_equalIn_agg w 9999 78 _ _ hS hp]
 simp only[Program.fieldsOf,Tryz.underlying78]
 go_simp
 by_cases h1:a=d<;>by_cases h2:b=e<;>simp[h1,h2]
theorem qZd (a b:Lf)(A1 A2:Option Addr)(c1 c2:Nat)(w:World)(ha:SlP w w.heap.size 1 StE (.slice A1 a.1.length c1) a.1)(hb:SlP w w.heap.size 1 StE (.slice A2 b.1.length c2) b.1) :
  Calls Tryz.prog 153 #[.agg #[.slice A1 a.1.length c1,.int .i64 a.2.dc,.int .i64 a.2.n,.string a.2.s,.int .i64 a.2.v],.agg #[.slice A2 b.1.length c2,.int .i64 b.2.dc,.int .i64 b.2.n,.string b.2.s,.int .i64 b.2.v]] w fun e w'=>e=.returned (.bool (YA a b))/\Below w.heap.size w w':=by
 obtain⟨pa,xa⟩:=a
 obtain⟨pb,xb⟩:=b
 simp only at ha hb ⊢
 have HP:Hid (YA (pa,xa) (pb,xb)=(decide (xa.dc=xb.dc/\xa.n=xb.n)&&decide (pa=pb))):=by
  unfold Hid YA En.dot;simp only[Dt.mk.injEq]
 obtain⟨_,_,h1,_,b2,b3⟩:=ha
 cases h1
 obtain⟨_,_,h2,_,d2,d3⟩:=hb
 cases h2
 unfold Big at b2 d2
 have hb0:Below w.heap.size w ((w.alloc (.cells #[.slice A1 pa.length c1,.int .i64 xa.dc,.int .i64 xa.n,.string xa.s,.int .i64 xa.v] 91)).alloc (.cells #[.slice A2 pb.length c2,.int .i64 xb.dc,.int .i64 xb.n,.string xb.s,.int .i64 xb.v] 91)):=((Below.refl _ w).alloc (Nat.le_refl _) _).alloc (by simp) _
 have gg:=zQc
 have nn:=zYe
 go_enter Tryz.func153,Tryz.ntmps153
 cases hd:decide (xa.dc=xb.dc/\xa.n=xb.n)
 ·have HF:Hid (YA (pa,xa) (pb,xb)=false):=by unfold Hid;rw[HP.out,hd];rfl
  go_wp2_with fail
  go_ret
  exact⟨Qf HF.out.symm,hb0⟩
 by_cases hl:pa.length=pb.length
 ·have hl':((pa.length:Int) != (pb.length:Int))=false:=by simp[hl]
  have HF:Hid (YA (pa,xa) (pb,xb)=decide (pa=pb)):=by unfold Hid;rw[HP.out,hd];rfl
  have HL:=hid hl
  clear hl
  go_wp2_with fail
  clear hd gg nn
  go_loopw [25] (fun i wr=>∃ k:Nat,k<=pa.length/\i=.int .i64 k/\Hid (pa.take k=pb.take k)/\Below (w.heap.size+2) ((w.alloc (.cells #[.slice A1 pa.length c1,.int .i64 xa.dc,.int .i64 xa.n,.string xa.s,.int .i64 xa.v] 91)).alloc (.cells #[.slice A2 pb.length c2,.int .i64 xb.dc,.int .i64 xb.n,.string xb.s,.int .i64 xb.v] 91)) wr) (fun i _=>pa.length-(intOf i).toNat)
  case atStart=>exact⟨0,Nat.zero_le _,rfl,rfl,Below.refl _ _⟩
  case round=>
   obtain⟨k,hk,rfl,hrel,hb⟩:=hrel
   have hB:=hb0.trans (hb.mono (by omega))
   have q0:wr.cell? ⟨w.heap.size,0,none⟩=some (.slice A1 pa.length c1):=by rw[hb.cell (p:=⟨w.heap.size,0,none⟩) (by simp)];rw[World.cell?_alloc_lt _ _ _ (by simp)];simp
   have q1:wr.cell? ⟨w.heap.size+1,0,none⟩=some (.slice A2 pb.length c2):=by rw[hb.cell (p:=⟨w.heap.size+1,0,none⟩) (by simp)];simp
   by_cases hlt:k<pa.length
   ·have hlt':k<pb.length:=by rw[←HL.out];exact hlt
    obtain⟨x,hx⟩:∃ x,pa[k]?=some x:=⟨_,List.getElem?_eq_getElem hlt⟩
    obtain⟨y,hy⟩:∃ y,pb[k]?=some y:=⟨_,List.getElem?_eq_getElem hlt'⟩
    obtain⟨b,off,rfl,hbB,hc⟩:=b3 (by rintro rfl;simp at hlt)
    obtain⟨b',off',rfl,hbB',hc'⟩:=d3 (by rintro rfl;simp at hlt')
    obtain⟨cs,⟨rfl,_⟩,_,hu⟩:=hc k _ hx
    obtain⟨cs',⟨rfl,_⟩,_,hu'⟩:=hc' k _ hy
    have e0:wr.cell? ⟨b,off+k,none⟩=some (.string x):=(hB.cell (p:=⟨b,off+k,none⟩) hbB).trans (by simpa using hu 0 _ rfl)
    have e1:wr.cell? ⟨b',off'+k,none⟩=some (.string y):=(hB.cell (p:=⟨b',off'+k,none⟩) hbB').trans (by simpa using hu' 0 _ rfl)
    have HT:=hid (Z5 hx hy hrel.out)
    have HXY:Hid (pa=pb->x=y):=fun e=>by rw[e]at hx;rw[hx]at hy;exact (Option.some.inj hy)
    clear hu hu' hc hc' b3 d3 hx hy
    have hi1:((k:Int))<(pa.length:Int):=by omega
    have hi2:((k:Int))<(pb.length:Int):=by omega
    by_cases hxy:x=y
    ·have hb1:(x.toList==y.toList)=true:=by rw[hxy];simp
     have hE:=hid hxy
     clear hxy
     go_wp2_with fail
     go_quiet (fail)
     go_wp2_with fail
     go_roundw
     case rel=>exact⟨k+1,by omega,by go_num,HT.out.2 hE.out,below_drewN hb nq⟩
     case measure=>simp[intOf];omega
    ·have hb1:(x.toList==y.toList)=false:=by simpa[QN] using hxy
     have hE:=hid hxy
     clear hxy
     go_wp2_with fail
     go_quiet (fail)
     go_wp2_with fail
     go_ret
     exact⟨Qf (by rw[HF.out];simpa using fun e=>hE.out (HXY.out e)),hb0.trans ((below_drewN hb nq).mono (by omega))⟩
   ·obtain rfl:k=pa.length:=by omega
    have HR:Hid (pa=pb):=by
     have h:=hrel.out
     rw[List.take_of_length_le (Nat.le_refl _),List.take_of_length_le (by rw[HL.out];exact Nat.le_refl _)]at h
     exact h
    go_wp2_with fail
    go_ret
    exact⟨Qf (by rw[HF.out];simp[HR.out]),hB⟩
 ·have hl':((pa.length:Int) != (pb.length:Int))=true:=by simp;omega
  have HF:Hid (YA (pa,xa) (pb,xb)=false):=by unfold Hid;rw[HP.out,hd];simp;exact fun e=>hl (by rw[e])
  clear hl
  go_wp2_with fail
  go_ret
  exact⟨Qf HF.out.symm,hb0⟩
def lf0:Lf:=([],⟨0,0,ByteArray.empty,0⟩)
def fndZ (l:List Lf)(x:Lf):Lf:=(findL l x).getD lf0
theorem box5 {w:World}{g:Nat}{x y z u v:Value}{e:TypeId}(hbx:w.heap[g]?=some (.cells #[x,y,z,u,v] e (0,0)))(a b c d f:Value) :
  (((((w.setCell ⟨g,0,none⟩ a).setCell ⟨g,1,none⟩ b).setCell ⟨g,2,none⟩ c).setCell ⟨g,3,none⟩ d).setCell ⟨g,4,none⟩ f).heap[g]?=some (.cells #[a,b,c,d,f] e (0,0)) /\
   (∀ k,k≠g->(((((w.setCell ⟨g,0,none⟩ a).setCell ⟨g,1,none⟩ b).setCell ⟨g,2,none⟩ c).setCell ⟨g,3,none⟩ d).setCell ⟨g,4,none⟩ f).heap[k]?=w.heap[k]?)/\(((((w.setCell ⟨g,0,none⟩ a).setCell ⟨g,1,none⟩ b).setCell ⟨g,2,none⟩ c).setCell ⟨g,3,none⟩ d).setCell ⟨g,4,none⟩ f).heap.size=w.heap.size:=by
 have hW:=Qe (i:=4) (Qe (i:=3) (Qe (i:=2) (Qe (i:=1) (Qe (i:=0) hbx a) b) c) d) f
 exact⟨by simpa using hW,fun k hk=>(Below.heap_setCell _ _ _ _ hk).trans ((Below.heap_setCell _ _ _ _ hk).trans ((Below.heap_setCell _ _ _ _ hk).trans ((Below.heap_setCell _ _ _ _ hk).trans (Below.heap_setCell _ _ _ _ hk)))),by simp[World.setCell]⟩
def RetF (w:World)(ok:Nat->Prop)(z:Lf)(b:Bool)(e:Ending)(w':World):Prop:=
 ∃ A c,e=.returned (.tuple #[.agg #[.slice A z.1.length c,.int .i64 z.2.dc,.int .i64 z.2.n,.string z.2.s,.int .i64 z.2.v],.bool b])/\SlA w ok 1 StE (.slice A z.1.length c) z.1/\z.2.Ok/\Below w.heap.size w w'
theorem qJe (ok:Nat->Prop)(l:List Lf)(x:Lf)(vl:Value)(A1:Option Addr)(c1:Nat)(w:World)(hok':∀ b,ok b->b<w.heap.size)(h:SlP w w.heap.size 5 (LfA w ok) vl l)(hx:SlA w (fun b=>b<w.heap.size) 1 StE (.slice A1 x.1.length c1) x.1) :
  Calls Tryz.prog 109 #[vl,.agg #[.slice A1 x.1.length c1,.int .i64 x.2.dc,.int .i64 x.2.n,.string x.2.s,.int .i64 x.2.v]] w (RetF w ok (fndZ l x) (findL l x).isSome):=by
 have HXP:Hid (∀ w',Below w.heap.size w w'->SlP w' w'.heap.size 1 StE (.slice A1 x.1.length c1) x.1):=fun w' hb=>Zk.2 (hx.up (fun b hb'=>hb.block b hb') (fun b hb'=>Nat.lt_of_lt_of_le hb' hb.size) fun _ _ _ h=>h)
 have HZ:Hid (fndZ l x=(findL l x).getD lf0):=rfl
 have HFE:Hid (findL l x=l.find? fun y=>YA y x):=rfl
 obtain⟨A,m,rfl,b1,b2,b3⟩:=h
 unfold Big at b2
 have hb0:Below w.heap.size w ((w.alloc (.cells #[.slice A1 x.1.length c1,.int .i64 x.2.dc,.int .i64 x.2.n,.string x.2.s,.int .i64 x.2.v] 91)).alloc (.cells #[.slice none 0 0,.int .i64 0,.int .i64 0,.string ByteArray.empty,.int .i64 0] 91)):=((Below.refl _ w).alloc (Nat.le_refl _) _).alloc (by simp) _
 clear hx
 go_enter Tryz.func109,Tryz.ntmps109
 go_wp2_with fail
 go_loopw [9] (fun i wr=>∃ k:Nat,k<=l.length/\i=.int .i64 k/\Hid (∀ y∈l.take k,YA y x=false)/\Below (w.heap.size+2) ((w.alloc (.cells #[.slice A1 x.1.length c1,.int .i64 x.2.dc,.int .i64 x.2.n,.string x.2.s,.int .i64 x.2.v] 91)).alloc (.cells #[.slice none 0 0,.int .i64 0,.int .i64 0,.string ByteArray.empty,.int .i64 0] 91)) wr) (fun i _=>l.length-(intOf i).toNat)
 case atStart=>exact⟨0,Nat.zero_le _,rfl,fun y hy=>by simp at hy,Below.refl _ _⟩
 case round=>
  obtain⟨k,hk,rfl,hno,hb⟩:=hrel
  have hB:=hb0.trans (hb.mono (by omega))
  have g1:wr.heap[w.heap.size+1]?=some (.cells #[.slice none 0 0,.int .i64 0,.int .i64 0,.string ByteArray.empty,.int .i64 0] 91 (0,0)):=(hb.block _ (by omega)).trans (Qd (by simp))
  have hsz:=hb.size
  simp only[World.size_alloc]at hsz
  by_cases hlt:k<l.length
  ·obtain⟨⟨p,y⟩,hy⟩:∃ y,l[k]?=some y:=⟨_,List.getElem?_eq_getElem hlt⟩
   obtain⟨b,off,rfl,hbB,hc⟩:=b3 (by rintro rfl;simp at hlt)
   obtain⟨cs,⟨A2,c2,rfl,hp,hok⟩,_,hu⟩:=hc k _ hy
   have e0:wr.cell? ⟨b,off+k*5,none⟩=some (.slice A2 p.length c2):=(hB.cell hbB).trans (hu 0 _ rfl)
   have e1:wr.cell? ⟨b,off+k*5+1,none⟩=some (.int .i64 y.dc):=(hB.cell hbB).trans (hu 1 _ rfl)
   have e2:wr.cell? ⟨b,off+k*5+2,none⟩=some (.int .i64 y.n):=(hB.cell hbB).trans (hu 2 _ rfl)
   have e3:wr.cell? ⟨b,off+k*5+3,none⟩=some (.string y.s):=(hB.cell hbB).trans (hu 3 _ rfl)
   have e4:wr.cell? ⟨b,off+k*5+4,none⟩=some (.int .i64 y.v):=(hB.cell hbB).trans (hu 4 _ rfl)
   have HX:Hid (∀ W,Below (w.heap.size+2) ((w.alloc (.cells #[.slice A1 x.1.length c1,.int .i64 x.2.dc,.int .i64 x.2.n,.string x.2.s,.int .i64 x.2.v] 91)).alloc (.cells #[.slice none 0 0,.int .i64 0,.int .i64 0,.string ByteArray.empty,.int .i64 0] 91)) W->Below w.heap.size w W/\W.heap[w.heap.size+1]?=some (.cells #[.slice none 0 0,.int .i64 0,.int .i64 0,.string ByteArray.empty,.int .i64 0] 91 (0,0))/\(W.cell? ⟨b,off+k*5,none⟩=some (.slice A2 p.length c2)/\W.cell? ⟨b,off+k*5+1,none⟩=some (.int .i64 y.dc)/\W.cell? ⟨b,off+k*5+2,none⟩=some (.int .i64 y.n)/\W.cell? ⟨b,off+k*5+3,none⟩=some (.string y.s)/\W.cell? ⟨b,off+k*5+4,none⟩=some (.int .i64 y.v) /\
     W.cell? ⟨w.heap.size,0,none⟩=some (.slice A1 x.1.length c1)/\W.cell? ⟨w.heap.size,1,none⟩=some (.int .i64 x.2.dc)/\W.cell? ⟨w.heap.size,2,none⟩=some (.int .i64 x.2.n)/\W.cell? ⟨w.heap.size,3,none⟩=some (.string x.2.s)/\W.cell? ⟨w.heap.size,4,none⟩=some (.int .i64 x.2.v))):=fun W hW=>by
    have hB:=hb0.trans (hW.mono (by omega))
    have g0:W.heap[w.heap.size]?=some (.cells #[.slice A1 x.1.length c1,.int .i64 x.2.dc,.int .i64 x.2.n,.string x.2.s,.int .i64 x.2.v] 91 (0,0)):=(hW.block _ (by omega)).trans ((Qg (by simp)).trans (Qd rfl))
    exact⟨hB,(hW.block _ (by omega)).trans (Qd (by simp)),(hB.cell hbB).trans (hu 0 _ rfl),(hB.cell hbB).trans (hu 1 _ rfl),(hB.cell hbB).trans (hu 2 _ rfl),(hB.cell hbB).trans (hu 3 _ rfl),(hB.cell hbB).trans (hu 4 _ rfl),Qa (i:=0) g0,Qa (i:=1) g0,Qa (i:=2) g0,Qa (i:=3) g0,Qa (i:=4) g0⟩
   have HPP:Hid (∀ w',Below w.heap.size w w'->SlP w' w'.heap.size 1 StE (.slice A2 p.length c2) p):=fun w' hb=>Zk.2 (hp.up (fun b hb'=>hb.block b (hok' b hb')) (fun b hb'=>Nat.lt_of_lt_of_le (hok' b hb') hb.size) fun _ _ _ h=>h)
   have HSP:=hid hp
   have HOK:=hid hok
   have htk:l.take (k+1)=l.take k++[(p,y)]:=by rw[List.take_add_one,hy];rfl
   have hdr:l=l.take k++(p,y) :: l.drop (k+1):=by
    have:=List.take_append_drop (k+1) l
    rw[htk,List.append_assoc]at this
    exact this.symm
   have HTK:=hid htk
   have HDR:=hid hdr
   have HWR:=hid hb
   clear hu hc b3 hy hp hok g1 htk hdr hb0
   cases hpl:YA (p,y) x
   ·have HPL:=hid hpl
    clear hpl
    obtain⟨q0,q1,q2,q3,q4⟩:=(HX.out _ HWR.out).2.2.2.2.2.2.2
    go_upto_region 4 with (fail)
    go_region_held3 (fun W=>W.cell? ⟨b,off+k*5,none⟩=some (.slice A2 p.length c2)/\W.cell? ⟨b,off+k*5+1,none⟩=some (.int .i64 y.dc)/\W.cell? ⟨b,off+k*5+2,none⟩=some (.int .i64 y.n)/\W.cell? ⟨b,off+k*5+3,none⟩=some (.string y.s)/\W.cell? ⟨b,off+k*5+4,none⟩=some (.int .i64 y.v)/\W.cell? ⟨w.heap.size,0,none⟩=some (.slice A1 x.1.length c1)/\W.cell? ⟨w.heap.size,1,none⟩=some (.int .i64 x.2.dc)/\W.cell? ⟨w.heap.size,2,none⟩=some (.int .i64 x.2.n)/\W.cell? ⟨w.heap.size,3,none⟩=some (.string x.2.s)/\W.cell? ⟨w.heap.size,4,none⟩=some (.int .i64 x.2.v))
     (first|go_keep|exact (HX.out _ hbk1.out).2.2|exact (HX.out _ (HWR.out.drew)).2.2)
     (first|(go_at_call 153;go_loud ((refine (qZd (p,y) x A2 A1 c2 c1 _ (HPP.out _ (HX.out _ (HWR.out.drew)).1) (HXP.out _ (HX.out _ (HWR.out.drew)).1)).mono ?_);rw[HPL.out];rintro e w1 ⟨rfl,hb1⟩;have hbk1:=hid (HWR.out.drew.trans (hb1.mono (by simp;omega))));have hB1:=(HX.out _ hbk1.out).1;have HG1:=hid (HX.out _ hbk1.out).2.1;have k0:w1.cell? ⟨w.heap.size+1,0,none⟩=some (.slice none 0 0):=Qa (i:=0) HG1.out;have k1:w1.cell? ⟨w.heap.size+1,1,none⟩=some (.int .i64 0):=Qa (i:=1) HG1.out;have k2:w1.cell? ⟨w.heap.size+1,2,none⟩=some (.int .i64 0):=Qa (i:=2) HG1.out;have k3:w1.cell? ⟨w.heap.size+1,3,none⟩=some (.string ByteArray.empty):=Qa (i:=3) HG1.out;have k4:w1.cell? ⟨w.heap.size+1,4,none⟩=some (.int .i64 0):=Qa (i:=4) HG1.out;have z0:=Qb (i:=0) HG1.out;have z1:=Qb (i:=1) HG1.out;have z2:=Qb (i:=2) HG1.out;have z3:=Qb (i:=3) HG1.out;have z4:=Qb (i:=4) HG1.out;have f0:=(HX.out _ hbk1.out).2.2.1;have f1:=(HX.out _ hbk1.out).2.2.2.1;have f2:=(HX.out _ hbk1.out).2.2.2.2.1;have f3:=(HX.out _ hbk1.out).2.2.2.2.2.1;have f4:=(HX.out _ hbk1.out).2.2.2.2.2.2.1;obtain⟨f5,f6,f7,f8,f9⟩:=(HX.out _ hbk1.out).2.2.2.2.2.2.2))
    all_goals (
     go_wp2_with fail
     go_roundw
     case rel=>
      refine⟨k+1,by omega,by go_num,fun z hz=>?_,hbk1.out⟩
      rw[HTK.out]at hz
      rcases List.mem_append.1 hz with hz|hz
      ·exact hno.out z hz
      ·simp at hz;subst hz;exact HPL.out
     case measure=>simp[intOf];omega)
   ·have HPL:=hid hpl
    clear hpl
    obtain⟨q0,q1,q2,q3,q4⟩:=(HX.out _ HWR.out).2.2.2.2.2.2.2
    go_upto_region 4 with (fail)
    go_region_held3 (fun W=>W.cell? ⟨b,off+k*5,none⟩=some (.slice A2 p.length c2)/\W.cell? ⟨b,off+k*5+1,none⟩=some (.int .i64 y.dc)/\W.cell? ⟨b,off+k*5+2,none⟩=some (.int .i64 y.n)/\W.cell? ⟨b,off+k*5+3,none⟩=some (.string y.s)/\W.cell? ⟨b,off+k*5+4,none⟩=some (.int .i64 y.v)/\W.cell? ⟨w.heap.size,0,none⟩=some (.slice A1 x.1.length c1)/\W.cell? ⟨w.heap.size,1,none⟩=some (.int .i64 x.2.dc)/\W.cell? ⟨w.heap.size,2,none⟩=some (.int .i64 x.2.n)/\W.cell? ⟨w.heap.size,3,none⟩=some (.string x.2.s)/\W.cell? ⟨w.heap.size,4,none⟩=some (.int .i64 x.2.v))
     (first|go_keep|exact (HX.out _ hbk1.out).2.2|exact (HX.out _ (HWR.out.drew)).2.2)
     (first|(go_at_call 153;go_loud ((refine (qZd (p,y) x A2 A1 c2 c1 _ (HPP.out _ (HX.out _ (HWR.out.drew)).1) (HXP.out _ (HX.out _ (HWR.out.drew)).1)).mono ?_);rw[HPL.out];rintro e w1 ⟨rfl,hb1⟩;have hbk1:=hid (HWR.out.drew.trans (hb1.mono (by simp;omega))));have hB1:=(HX.out _ hbk1.out).1;have HG1:=hid (HX.out _ hbk1.out).2.1;have k0:w1.cell? ⟨w.heap.size+1,0,none⟩=some (.slice none 0 0):=Qa (i:=0) HG1.out;have k1:w1.cell? ⟨w.heap.size+1,1,none⟩=some (.int .i64 0):=Qa (i:=1) HG1.out;have k2:w1.cell? ⟨w.heap.size+1,2,none⟩=some (.int .i64 0):=Qa (i:=2) HG1.out;have k3:w1.cell? ⟨w.heap.size+1,3,none⟩=some (.string ByteArray.empty):=Qa (i:=3) HG1.out;have k4:w1.cell? ⟨w.heap.size+1,4,none⟩=some (.int .i64 0):=Qa (i:=4) HG1.out;have z0:=Qb (i:=0) HG1.out;have z1:=Qb (i:=1) HG1.out;have z2:=Qb (i:=2) HG1.out;have z3:=Qb (i:=3) HG1.out;have z4:=Qb (i:=4) HG1.out;have f0:=(HX.out _ hbk1.out).2.2.1;have f1:=(HX.out _ hbk1.out).2.2.2.1;have f2:=(HX.out _ hbk1.out).2.2.2.2.1;have f3:=(HX.out _ hbk1.out).2.2.2.2.2.1;have f4:=(HX.out _ hbk1.out).2.2.2.2.2.2.1;obtain⟨f5,f6,f7,f8,f9⟩:=(HX.out _ hbk1.out).2.2.2.2.2.2.2))
    have hfl:findL l x=some (p,y):=by
     rw[HFE.out,HDR.out,List.find?_append,List.find?_eq_none.2 (fun z hz=>by rw[hno.out z hz];simp),List.find?_cons,HPL.out];rfl
    have hfz:fndZ l x=(p,y):=by rw[HZ.out,hfl];rfl
    have hfs:(findL l x).isSome=true:=by rw[hfl];rfl
    have HFZ:=hid hfz
    have HFS:=hid hfs
    clear hfl hfz hfs
    all_goals (
     go_wp2_with fail
     obtain⟨hW,hK,hS⟩:=box5 HG1.out (.slice A2 p.length c2) (.int .i64 y.dc) (.int .i64 y.n) (.string y.s) (.int .i64 y.v)
     have hBW:=((((hB1.setCell (p:=⟨w.heap.size+1,0,none⟩) (by simp) (.slice A2 p.length c2)).setCell (p:=⟨w.heap.size+1,1,none⟩) (by simp) (.int .i64 y.dc)).setCell (p:=⟨w.heap.size+1,2,none⟩) (by simp) (.int .i64 y.n)).setCell (p:=⟨w.heap.size+1,3,none⟩) (by simp) (.string y.s)).setCell (p:=⟨w.heap.size+1,4,none⟩) (by simp) (.int .i64 y.v)
     clear k0 k1 k2 k3 k4 z0 z1 z2 z3 z4
     generalize (((((w1.setCell ⟨w.heap.size+1,0,none⟩ (.slice A2 p.length c2)).setCell ⟨w.heap.size+1,1,none⟩ (.int .i64 y.dc)).setCell ⟨w.heap.size+1,2,none⟩ (.int .i64 y.n)).setCell ⟨w.heap.size+1,3,none⟩ (.string y.s)).setCell ⟨w.heap.size+1,4,none⟩ (.int .i64 y.v))=W at *
     have r0:=Qa (i:=0) hW
     have r1:=Qa (i:=1) hW
     have r2:=Qa (i:=2) hW
     have r3:=Qa (i:=3) hW
     have r4:=Qa (i:=4) hW
     simp only[List.getElem?_toArray,List.getElem?_cons_zero,List.getElem?_cons_succ]at r0 r1 r2 r3 r4
     refine bodyPost_ret (v:=.tuple #[.agg #[.slice A2 p.length c2,.int .i64 y.dc,.int .i64 y.n,.string y.s,.int .i64 y.v],.bool true]) (by simp[results,Tryz.results109,go_sem,r0,r1,r2,r3,r4]) rfl ⟨A2,c2,by rw[HFZ.out,HFS.out],by rw[HFZ.out];exact HSP.out,by rw[HFZ.out];exact HOK.out,hBW⟩)
  ·obtain rfl:k=l.length:=by omega
   have hfl:findL l x=none:=by
    rw[HFE.out]
    rw[List.take_of_length_le (Nat.le_refl _)]at hno
    exact List.find?_eq_none.2 fun z hz=>by rw[hno.out z hz];simp
   have hfz:fndZ l x=lf0:=by rw[HZ.out,hfl];rfl
   have hfs:(findL l x).isSome=false:=by rw[hfl];rfl
   have HFZ:=hid hfz
   have HFS:=hid hfs
   clear hfl hfz hfs
   have HG1:=hid g1
   have k0:wr.cell? ⟨w.heap.size+1,0,none⟩=some (.slice none 0 0):=Qa (i:=0) HG1.out
   have k1:wr.cell? ⟨w.heap.size+1,1,none⟩=some (.int .i64 0):=Qa (i:=1) HG1.out
   have k2:wr.cell? ⟨w.heap.size+1,2,none⟩=some (.int .i64 0):=Qa (i:=2) HG1.out
   have k3:wr.cell? ⟨w.heap.size+1,3,none⟩=some (.string ByteArray.empty):=Qa (i:=3) HG1.out
   have k4:wr.cell? ⟨w.heap.size+1,4,none⟩=some (.int .i64 0):=Qa (i:=4) HG1.out
   have z0:=Qb (i:=0) HG1.out
   have z1:=Qb (i:=1) HG1.out
   have z2:=Qb (i:=2) HG1.out
   have z3:=Qb (i:=3) HG1.out
   have z4:=Qb (i:=4) HG1.out
   go_wp2_with fail
   obtain⟨hW,hK,hS⟩:=box5 HG1.out (.slice none 0 0) (.int .i64 0) (.int .i64 0) (.string ⟨#[]⟩) (.int .i64 0)
   have hBW:=((((hB.setCell (p:=⟨w.heap.size+1,0,none⟩) (by simp) (.slice none 0 0)).setCell (p:=⟨w.heap.size+1,1,none⟩) (by simp) (.int .i64 0)).setCell (p:=⟨w.heap.size+1,2,none⟩) (by simp) (.int .i64 0)).setCell (p:=⟨w.heap.size+1,3,none⟩) (by simp) (.string ⟨#[]⟩)).setCell (p:=⟨w.heap.size+1,4,none⟩) (by simp) (.int .i64 0)
   clear k0 k1 k2 k3 k4 z0 z1 z2 z3 z4
   generalize (((((wr.setCell ⟨w.heap.size+1,0,none⟩ (.slice none 0 0)).setCell ⟨w.heap.size+1,1,none⟩ (.int .i64 0)).setCell ⟨w.heap.size+1,2,none⟩ (.int .i64 0)).setCell ⟨w.heap.size+1,3,none⟩ (.string ⟨#[]⟩)).setCell ⟨w.heap.size+1,4,none⟩ (.int .i64 0))=W at *
   have r0:=Qa (i:=0) hW
   have r1:=Qa (i:=1) hW
   have r2:=Qa (i:=2) hW
   have r3:=Qa (i:=3) hW
   have r4:=Qa (i:=4) hW
   simp only[List.getElem?_toArray,List.getElem?_cons_zero,List.getElem?_cons_succ]at r0 r1 r2 r3 r4
   refine bodyPost_ret (v:=.tuple #[.agg #[.slice none 0 0,.int .i64 0,.int .i64 0,.string ⟨#[]⟩,.int .i64 0],.bool false]) (by simp[results,Tryz.results109,go_sem,r0,r1,r2,r3,r4]) rfl ⟨none,0,by rw[HFZ.out,HFS.out];rfl,by rw[HFZ.out];exact SlA.nil,by rw[HFZ.out];exact⟨⟨by decide,by decide⟩,⟨by decide,by decide⟩,⟨by decide,by decide⟩,by simp[lf0,Big]⟩,hBW⟩
end Go.Proofs.YtbcoelggdikipaaGreat
