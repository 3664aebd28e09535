/- What the laws need. No condition but those that each lemma states. -/
import Derived.Test.YtbcoelggdikipaaGreatUw7
import Derived.Test.YtbcoelggdikipaaGreatUw6
import Derived.Test.YtbcoelggdikipaaGreatUw5
import Derived.Test.YtbcoelggdikipaaGreatUw3
import Derived.Test.YtbcoelggdikipaaGreatUw1
import Derived.Test.YtbcoelggdikipaaGreatUw4
import Derived.Test.YtbcoelggdikipaaGreatUw2
set_option maxRecDepth 100000
set_option maxHeartbeats 8000000
set_option linter.unusedSimpArgs false
namespace Go.Proofs.YtbcoelggdikipaaGreat
open Go.RowKit
def addE (t:Tr)(s:ByteArray)(d:Dt):Int:=if !sckB t s d then 1 else if decide (24<=t.ks.length)&&!hasK t s then 4 else 0
def oneE (d:Dt):Tr:=.mk [⟨d.dc,d.n,ByteArray.empty,0⟩] []
def addT (t:Tr)(s:ByteArray)(d:Dt):Tr:=if addE t s d=0 then .mk [] [(s,oneE d)] else .mk [] []
def addC (t:Tr)(s:ByteArray)(d:Dt):List Sp:=if addE t s d=0 then seenC (kidT t s) d else []
theorem zZt {d:Dt}(hd:d.Ok):EnE (⟨d.dc,d.n,ByteArray.empty,0⟩:En) [.int .i64 d.dc,.int .i64 d.n,.string ByteArray.empty,.int .i64 0]:=⟨rfl,En.Ok.mk' hd ⟨by decide,by decide⟩⟩
theorem qJy {d:Dt}(h:d.right=true):(oneE d).right 5=true:=by
 unfold oneE
 rw[Tr.right,Tr.rightL]
 simp[entsB,En.right,okP,En.dot]
 exact h
theorem qQf {d:Dt}{s:ByteArray}(h:d.right=true)(hk:keyB s=true):wrapE (oneE d) s=0/\wrapT (oneE d) s=.mk [] [(s,oneE d)]:=by
 have hE:wrapE (oneE d) s=0:=by
  unfold wrapE
  rw[qJy h,hk]
  rfl
 refine⟨hE,?_⟩
 unfold wrapT
 rw[hE,if_pos rfl]
 rfl
theorem zQj (t:Tr)(s:ByteArray)(d:Dt)(ve vk:Value)(w:World)(h:t.rd w w.heap.size ve vk)(hs:s.size<=Big)(hN:t.sz<=4000)(hd:d.Ok) :
  Calls Tryz.prog 140 #[.agg #[ve,vk],.string s,.agg #[.int .i64 d.dc,.int .i64 d.n]] w (RetCE w (addT t s d) (addC t s d) (addE t s d)):=by
 have hsc:=Yk (kidT t s) d
 have hkz:=YE t s
 have HC:Hid (∀ w',Below w.heap.size w w'->t.rd w' w'.heap.size ve vk):=fun w' hb=>Qi hb hb.size _ _ _ h
 obtain⟨A3,n3,A4,n4,rfl,rfl⟩:=Qj h
 have hb0:=(((Below.refl w.heap.size w).alloc (Nat.le_refl _) (.cells #[.slice A3 t.es.length n3,.slice A4 t.ks.length n4] 25)).alloc (by simp) (.cells #[.int .i64 d.dc,.int .i64 d.n] 78)).alloc (by simp;omega) (.cells #[.slice none 0 0,.slice none 0 0,.slice none 0 0] 29)
 clear h
 go_enter Tryz.func140,Tryz.ntmps140
 go_wp2_with fail
 refine (K5 t s d _ _ _ (HC.out _ hb0) hs (by omega)).mono ?_
 rintro e w1 ⟨rfl,hb1⟩
 have hs1:=hb1.size
 simp only[World.size_alloc]at hs1
 have hB1:Below w.heap.size w w1:=hb0.trans (hb1.mono (by simp;omega))
 have c0:w1.cell? ⟨w.heap.size,0,none⟩=some (.slice A3 t.es.length n3):=by
  rw[hb1.cell (p:=⟨w.heap.size,0,none⟩) (by simp;omega)]
  rw[World.cell?_alloc_lt _ _ _ (by simp;omega),World.cell?_alloc_lt _ _ _ (by simp)];simp
 have c1:w1.cell? ⟨w.heap.size,1,none⟩=some (.slice A4 t.ks.length n4):=by
  rw[hb1.cell (p:=⟨w.heap.size,1,none⟩) (by simp;omega)]
  rw[World.cell?_alloc_lt _ _ _ (by simp;omega),World.cell?_alloc_lt _ _ _ (by simp)];simp
 have d0:w1.cell? ⟨w.heap.size+1,0,none⟩=some (.int .i64 d.dc):=by rw[hb1.cell (p:=⟨w.heap.size+1,0,none⟩) (by simp),World.cell?_alloc_lt _ _ _ (by simp)];simp
 have d1:w1.cell? ⟨w.heap.size+1,1,none⟩=some (.int .i64 d.n):=by rw[hb1.cell (p:=⟨w.heap.size+1,1,none⟩) (by simp),World.cell?_alloc_lt _ _ _ (by simp)];simp
 have hg:w1.heap[w.heap.size+2]?=some (.cells #[.slice none 0 0,.slice none 0 0,.slice none 0 0] 29 (0,0)):=(hb1.block (w.heap.size+2) (by simp)).trans (Qd (by simp))
 have HG:=hid hg
 have k0:w1.cell? ⟨w.heap.size+2,0,none⟩=some (.slice none 0 0):=Qa (i:=0) hg
 have k1:w1.cell? ⟨w.heap.size+2,1,none⟩=some (.slice none 0 0):=Qa (i:=1) hg
 have k2:w1.cell? ⟨w.heap.size+2,2,none⟩=some (.slice none 0 0):=Qa (i:=2) hg
 have z0:=Qb (i:=0) hg
 have z1:=Qb (i:=1) hg
 have z2:=Qb (i:=2) hg
 clear hg hb1
 have HK1:Hid (∀ w',Below w1.heap.size w1 w'->Below w.heap.size w w'/\w1.heap.size<=w'.heap.size/\w'.cell? ⟨w.heap.size,0,none⟩=some (.slice A3 t.es.length n3)/\w'.cell? ⟨w.heap.size,1,none⟩=some (.slice A4 t.ks.length n4)/\w'.cell? ⟨w.heap.size+1,0,none⟩=some (.int .i64 d.dc)/\w'.cell? ⟨w.heap.size+1,1,none⟩=some (.int .i64 d.n)/\w'.heap[w.heap.size+2]?=some (.cells #[.slice none 0 0,.slice none 0 0,.slice none 0 0] 29 (0,0))):=fun w' hb=>
  ⟨hB1.trans (hb.mono (by omega)),hb.size,(hb.cell (p:=⟨w.heap.size,0,none⟩) (by show w.heap.size<_;omega)).trans c0,(hb.cell (p:=⟨w.heap.size,1,none⟩) (by show w.heap.size<_;omega)).trans c1,(hb.cell (p:=⟨w.heap.size+1,0,none⟩) (by show w.heap.size+1<_;omega)).trans d0,(hb.cell (p:=⟨w.heap.size+1,1,none⟩) (by show w.heap.size+1<_;omega)).trans d1,(hb.block _ (by omega)).trans HG.out⟩
 clear c0 c1 d0 d1 k0 k1 k2 z0 z1 z2
 have hb1':=hid (Below.refl w1.heap.size w1)
 obtain⟨hB1,hs1,c0,c1,d0,d1,g6⟩:=HK1.out _ hb1'.out
 have HG1:=hid g6
 have k0:w1.cell? ⟨w.heap.size+2,0,none⟩=some (.slice none 0 0):=Qa (i:=0) g6
 have k1:w1.cell? ⟨w.heap.size+2,1,none⟩=some (.slice none 0 0):=Qa (i:=1) g6
 have k2:w1.cell? ⟨w.heap.size+2,2,none⟩=some (.slice none 0 0):=Qa (i:=2) g6
 have z0:=Qb (i:=0) g6
 have z1:=Qb (i:=1) g6
 have z2:=Qb (i:=2) g6
 clear g6
 cases hc:sckB t s d
 ·have HI:Hid (sckI t s d=1):=by unfold Hid sckI;rw[hc];rfl
  have HE:Hid (addE t s d=1):=by unfold Hid addE;rw[hc];rfl
  have HTT:Hid (addT t s d=.mk [] []):=by unfold Hid addT;rw[HE.out];rfl
  have HCC:Hid (addC t s d=[]):=by unfold Hid addC;rw[HE.out];rfl
  rw[HI.out]
  clear hc
  go_wp2_with fail
  obtain⟨r0,r1,r2,hK,hS⟩:=box3 HG1.out (.slice none 0 0) (.slice none 0 0) (.slice none 0 0)
  have hBW:=((hB1.setCell (p:=⟨w.heap.size+2,0,none⟩) (by simp) (.slice none 0 0)).setCell (p:=⟨w.heap.size+2,1,none⟩) (by simp) (.slice none 0 0)).setCell (p:=⟨w.heap.size+2,2,none⟩) (by simp) (.slice none 0 0)
  refine bodyPost_ret (v:=.tuple #[.agg #[.slice none 0 0,.slice none 0 0,.slice none 0 0],.int .i64 1]) (by simp[results,Tryz.results140,go_sem,r0,r1,r2]) rfl ⟨_,_,_,by rw[HE.out],by rw[HTT.out];exact Qp _ _,by rw[HCC.out];exact SlA.nil,hBW⟩
 have HI:Hid (sckI t s d=0):=by unfold Hid sckI;rw[hc];rfl
 have HDR:=hid (Zn (Jb hc).1)
 have HTR:=hid (Yj (Jb hc).1)
 have HWE:=hid (qQf HDR.out (Jb hc).2).1
 have HWT:=hid (qQf HDR.out (Jb hc).2).2
 rw[HI.out]
 have hfi:decide ((24:Int)<=(t.ks.length:Int))=decide (24<=t.ks.length):=by rw[Bool.eq_iff_iff];simp;omega
 cases fl:decide (24<=t.ks.length)
 ·have HE:Hid (addE t s d=0):=by unfold Hid addE;rw[hc,fl];rfl
  have HTT:Hid (addT t s d=.mk [] [(s,oneE d)]):=by unfold Hid addT;rw[HE.out,if_pos rfl]
  have HCC:Hid (addC t s d=seenC (kidT t s) d):=by unfold Hid addC;rw[HE.out,if_pos rfl]
  rw[fl]at hfi
  clear hc fl
  have hltn:w.heap.size+2<w1.heap.size:=by omega
  have hen:SlP ((w1.alloc (.cells #[.int .i64 d.dc,.int .i64 d.n,.string ByteArray.empty,.int .i64 0] 80)).alloc (.cells #[.string s] 9)) ((w1.alloc (.cells #[.int .i64 d.dc,.int .i64 d.n,.string ByteArray.empty,.int .i64 0] 80)).alloc (.cells #[.string s] 9)).heap.size 4 EnE (.slice (some ⟨w1.heap.size,0,none⟩) 1 1) [(⟨d.dc,d.n,ByteArray.empty,0⟩:En)]:=
   (SlP.one (x:=(⟨d.dc,d.n,ByteArray.empty,0⟩:En)) (zZt hd) rfl 80 rfl).imp ((Below.refl _ _).alloc (by rw[World.size_alloc];omega) _) (by rw[World.size_alloc,World.size_alloc];omega) fun _ _ _ h=>h
  have HEN:Hid ((oneE d).rd ((w1.alloc (.cells #[.int .i64 d.dc,.int .i64 d.n,.string ByteArray.empty,.int .i64 0] 80)).alloc (.cells #[.string s] 9)) ((w1.alloc (.cells #[.int .i64 d.dc,.int .i64 d.n,.string ByteArray.empty,.int .i64 0] 80)).alloc (.cells #[.string s] 9)).heap.size (.slice (some ⟨w1.heap.size,0,none⟩) 1 1) (.slice none 0 0)):=QA.2 ⟨hen,SlP.nil⟩
  clear hen
  go_wp2_with fail
  refine (YJ (oneE d) s _ _ _ _ HEN.out (SlP.oneB (E:=StE) (n:=w1.heap.size+1) (x:=s) (cs:=[.string s]) ⟨rfl,hs⟩ rfl _ (by simp) (by simp)) (by simp[oneE,Tr.sz,Tr.szL])).mono ?_
  rw[HWE.out,HWT.out]
  rintro e w5 ⟨v5,u5,rfl,hrd5,hb5⟩
  generalize (Tr.mk [] [(s,oneE d)]:Tr)=T at *
  obtain⟨A8,n8,A9,n9,rfl,rfl⟩:=Ql hrd5
  have hs5:=hb5.size
  simp only[World.size_alloc]at hs5
  clear c0 c1 d0 d1 k0 k1 k2 z0 z1 z2
  have hb5':=hid (hb1'.out.trans ((((Below.refl w1.heap.size w1).alloc (Nat.le_refl _) _).alloc (by rw[World.size_alloc];omega) _).trans (hb5.mono (show w1.heap.size<=_ by simp only[World.size_alloc];omega)) |>.mono hs1))
  obtain⟨hB5,hs5,c0,c1,d0,d1,g6⟩:=HK1.out _ hb5'.out
  have HG5:=hid g6
  have k0:w5.cell? ⟨w.heap.size+2,0,none⟩=some (.slice none 0 0):=Qa (i:=0) g6
  have k1:w5.cell? ⟨w.heap.size+2,1,none⟩=some (.slice none 0 0):=Qa (i:=1) g6
  have k2:w5.cell? ⟨w.heap.size+2,2,none⟩=some (.slice none 0 0):=Qa (i:=2) g6
  have z0:=Qb (i:=0) g6
  have z1:=Qb (i:=1) g6
  have z2:=Qb (i:=2) g6
  clear g6
  clear hb5
  have hlt2:w.heap.size+2<w5.heap.size:=by omega
  have hne2:w.heap.size+2≠w5.heap.size:=by omega
  have hlt1:w.heap.size+1<w5.heap.size:=by omega
  have hne1:w.heap.size+1≠w5.heap.size:=by omega
  have hlt0:w.heap.size<w5.heap.size:=by omega
  have hne0:w.heap.size≠w5.heap.size:=by omega
  have HX:Hid (∀ w',Below (w5.heap.size+1) (w5.alloc (.cells #[.slice A8 T.es.length n8,.slice A9 T.ks.length n9] 25)) w'->Below w5.heap.size w5 w'/\(w'.cell? ⟨w.heap.size,0,none⟩=some (.slice A3 t.es.length n3)/\w'.cell? ⟨w.heap.size,1,none⟩=some (.slice A4 t.ks.length n4)/\w'.cell? ⟨w.heap.size+1,0,none⟩=some (.int .i64 d.dc)/\w'.cell? ⟨w.heap.size+1,1,none⟩=some (.int .i64 d.n)/\w'.cell? ⟨w5.heap.size,0,none⟩=some (.slice A8 T.es.length n8)/\w'.cell? ⟨w5.heap.size,1,none⟩=some (.slice A9 T.ks.length n9))):=fun w' hb=>by
   have hB:Below w5.heap.size w5 w':=((Below.refl _ w5).alloc (Nat.le_refl _) _).trans (hb.mono (by omega))
   refine⟨hB,(hB.cell (p:=⟨w.heap.size,0,none⟩) hlt0).trans c0,(hB.cell (p:=⟨w.heap.size,1,none⟩) hlt0).trans c1,(hB.cell (p:=⟨w.heap.size+1,0,none⟩) hlt1).trans d0,(hB.cell (p:=⟨w.heap.size+1,1,none⟩) hlt1).trans d1,?_,?_⟩
   ·rw[hb.cell (p:=⟨w5.heap.size,0,none⟩) (by simp),World.cell?_alloc_new];rfl
   ·rw[hb.cell (p:=⟨w5.heap.size,1,none⟩) (by simp),World.cell?_alloc_new];rfl
  have hneA:w.heap.size+1+1≠w.heap.size:=by omega
  have hneB:w.heap.size≠w.heap.size+1+1:=by omega
  clear k0 k1 k2 z0 z1 z2
  go_upto_region 7 with (fail)
  go_region_held3 (fun w'=>w'.cell? ⟨w.heap.size,0,none⟩=some (.slice A3 t.es.length n3)/\w'.cell? ⟨w.heap.size,1,none⟩=some (.slice A4 t.ks.length n4)/\w'.cell? ⟨w.heap.size+1,0,none⟩=some (.int .i64 d.dc)/\w'.cell? ⟨w.heap.size+1,1,none⟩=some (.int .i64 d.n)/\w'.cell? ⟨w5.heap.size,0,none⟩=some (.slice A8 T.es.length n8)/\w'.cell? ⟨w5.heap.size,1,none⟩=some (.slice A9 T.ks.length n9))
   (first|go_keep|exact (HX.out _ hbx.out).2)
   (first|(go_at_call 173;go_loud ((refine (Kb t s d _ _ _ (HC.out _ ((hB5.alloc (by omega) _).drew)) hs hN HTR.out HDR.out hd).mono ?_);rintro e w6 ⟨v6,rfl,ho6,hb6⟩;obtain⟨A10,c10,hv6⟩:=ho6.shape;subst hv6;have HO6:=hid ho6;have hbx:Hid (Below (w5.heap.size+1) (w5.alloc (.cells #[.slice A8 T.es.length n8,.slice A9 T.ks.length n9] 25)) w6):=(((Below.refl (w5.heap.size+1) (w5.alloc (.cells #[.slice A8 T.es.length n8,.slice A9 T.ks.length n9] 25))).drew).trans (hb6.mono (by simp)));have hby:=hid (HX.out _ hbx.out).1;have hs6:w5.heap.size+1<=w6.heap.size:=(by have:=hbx.out.size;simpa using this);have HGx:=hid ((hby.out.block (w.heap.size+2) (by omega)).trans HG5.out);have k0:w6.cell? ⟨w.heap.size+2,0,none⟩=some (.slice none 0 0):=Qa (i:=0) HGx.out;have k1:w6.cell? ⟨w.heap.size+2,1,none⟩=some (.slice none 0 0):=Qa (i:=1) HGx.out;have k2:w6.cell? ⟨w.heap.size+2,2,none⟩=some (.slice none 0 0):=Qa (i:=2) HGx.out;have z0:=Qb (i:=0) HGx.out;have z1:=Qb (i:=1) HGx.out;have z2:=Qb (i:=2) HGx.out;have hlt6:w.heap.size+2<w6.heap.size:=(by omega);have hne6:w.heap.size+2≠w6.heap.size:=(by omega);clear ho6 hb6)))
  all_goals go_wp2_with fail
  obtain⟨r0,r1,r2,hK,hS⟩:=box3 HGx.out (.slice A8 T.es.length n8) (.slice A9 T.ks.length n9) (.slice A10 (seenC (kidT t s) d).length c10)
  have hBW:Below w.heap.size w (((w6.setCell ⟨w.heap.size+2,0,none⟩ (.slice A8 T.es.length n8)).setCell ⟨w.heap.size+2,1,none⟩ (.slice A9 T.ks.length n9)).setCell ⟨w.heap.size+2,2,none⟩ (.slice A10 (seenC (kidT t s) d).length c10)):=(((hB5.trans (hby.out.mono (by omega))).setCell (by simp) _).setCell (by simp) _).setCell (by simp) _
  clear k0 k1 k2 z0 z1 z2
  generalize (((w6.setCell ⟨w.heap.size+2,0,none⟩ (.slice A8 T.es.length n8)).setCell ⟨w.heap.size+2,1,none⟩ (.slice A9 T.ks.length n9)).setCell ⟨w.heap.size+2,2,none⟩ (.slice A10 (seenC (kidT t s) d).length c10))=W at *
  refine bodyPost_ret (v:=.tuple #[.agg #[.slice A8 T.es.length n8,.slice A9 T.ks.length n9,.slice A10 (seenC (kidT t s) d).length c10],.int .i64 0]) (by simp[results,Tryz.results140,go_sem,r0,r1,r2]) rfl ⟨_,_,_,by rw[HE.out],?_,?_,hBW⟩
  ·rw[HTT.out]
   exact Qs (fun b hb=>(hK b (by have:=hb.1;simp only[World.size_alloc]at this;omega)).trans (hby.out.block b hb.2)) (fun b hb=>⟨by have:=hb.1;simp only[World.size_alloc]at this;omega,by have:=hb.2;omega⟩) _ _ _ hrd5
  ·rw[HCC.out]
   refine (HO6.out.sla (by unfold Big;omega)).up (fun b hb=>hK b (by have:=hb.1;simp only[World.size_alloc,World.size_drew]at this;omega)) (fun b hb=>⟨by have:=hb.1;simp only[World.size_alloc,World.size_drew]at this;omega,by have:=hb.2.1;omega⟩) (fun _ _ _ h=>h)
 ·rw[fl]at hfi
  go_wp2_with fail
  refine (qJv t s _ _ w1 (HC.out _ hB1)).mono ?_
  rintro e w2 ⟨rfl,hb2⟩
  clear c0 c1 d0 d1 k0 k1 k2 z0 z1 z2
  have hb2':=hid (hb2)
  obtain⟨hB2,hs2,c0,c1,d0,d1,g6⟩:=HK1.out _ hb2'.out
  have HG2:=hid g6
  have k0:w2.cell? ⟨w.heap.size+2,0,none⟩=some (.slice none 0 0):=Qa (i:=0) g6
  have k1:w2.cell? ⟨w.heap.size+2,1,none⟩=some (.slice none 0 0):=Qa (i:=1) g6
  have k2:w2.cell? ⟨w.heap.size+2,2,none⟩=some (.slice none 0 0):=Qa (i:=2) g6
  have z0:=Qb (i:=0) g6
  have z1:=Qb (i:=1) g6
  have z2:=Qb (i:=2) g6
  clear g6
  clear hb2
  cases an:hasK t s
  ·have HE:Hid (addE t s d=4):=by unfold Hid addE;rw[hc,fl,an];rfl
   have HTT:Hid (addT t s d=.mk [] []):=by unfold Hid addT;rw[HE.out];rfl
   have HCC:Hid (addC t s d=[]):=by unfold Hid addC;rw[HE.out];rfl
   clear hc fl an
   go_wp2_with fail
   obtain⟨r0,r1,r2,hK,hS⟩:=box3 HG2.out (.slice none 0 0) (.slice none 0 0) (.slice none 0 0)
   have hBW:=((hB2.setCell (p:=⟨w.heap.size+2,0,none⟩) (by simp) (.slice none 0 0)).setCell (p:=⟨w.heap.size+2,1,none⟩) (by simp) (.slice none 0 0)).setCell (p:=⟨w.heap.size+2,2,none⟩) (by simp) (.slice none 0 0)
   refine bodyPost_ret (v:=.tuple #[.agg #[.slice none 0 0,.slice none 0 0,.slice none 0 0],.int .i64 4]) (by simp[results,Tryz.results140,go_sem,r0,r1,r2]) rfl ⟨_,_,_,by rw[HE.out],by rw[HTT.out];exact Qp _ _,by rw[HCC.out];exact SlA.nil,hBW⟩
  ·have HE:Hid (addE t s d=0):=by unfold Hid addE;rw[hc,fl,an];rfl
   have HTT:Hid (addT t s d=.mk [] [(s,oneE d)]):=by unfold Hid addT;rw[HE.out,if_pos rfl]
   have HCC:Hid (addC t s d=seenC (kidT t s) d):=by unfold Hid addC;rw[HE.out,if_pos rfl]
   clear hc fl an
   have hltn:w.heap.size+2<w2.heap.size:=by omega
   have hen:SlP ((w2.alloc (.cells #[.int .i64 d.dc,.int .i64 d.n,.string ByteArray.empty,.int .i64 0] 80)).alloc (.cells #[.string s] 9)) ((w2.alloc (.cells #[.int .i64 d.dc,.int .i64 d.n,.string ByteArray.empty,.int .i64 0] 80)).alloc (.cells #[.string s] 9)).heap.size 4 EnE (.slice (some ⟨w2.heap.size,0,none⟩) 1 1) [(⟨d.dc,d.n,ByteArray.empty,0⟩:En)]:=
    (SlP.one (x:=(⟨d.dc,d.n,ByteArray.empty,0⟩:En)) (zZt hd) rfl 80 rfl).imp ((Below.refl _ _).alloc (by rw[World.size_alloc];omega) _) (by rw[World.size_alloc,World.size_alloc];omega) fun _ _ _ h=>h
   have HEN:Hid ((oneE d).rd ((w2.alloc (.cells #[.int .i64 d.dc,.int .i64 d.n,.string ByteArray.empty,.int .i64 0] 80)).alloc (.cells #[.string s] 9)) ((w2.alloc (.cells #[.int .i64 d.dc,.int .i64 d.n,.string ByteArray.empty,.int .i64 0] 80)).alloc (.cells #[.string s] 9)).heap.size (.slice (some ⟨w2.heap.size,0,none⟩) 1 1) (.slice none 0 0)):=QA.2 ⟨hen,SlP.nil⟩
   clear hen
   go_wp2_with fail
   refine (YJ (oneE d) s _ _ _ _ HEN.out (SlP.oneB (E:=StE) (n:=w2.heap.size+1) (x:=s) (cs:=[.string s]) ⟨rfl,hs⟩ rfl _ (by simp) (by simp)) (by simp[oneE,Tr.sz,Tr.szL])).mono ?_
   rw[HWE.out,HWT.out]
   rintro e w5 ⟨v5,u5,rfl,hrd5,hb5⟩
   generalize (Tr.mk [] [(s,oneE d)]:Tr)=T at *
   obtain⟨A8,n8,A9,n9,rfl,rfl⟩:=Ql hrd5
   have hs5:=hb5.size
   simp only[World.size_alloc]at hs5
   clear c0 c1 d0 d1 k0 k1 k2 z0 z1 z2
   have hb5':=hid (hb2'.out.trans ((((Below.refl w2.heap.size w2).alloc (Nat.le_refl _) _).alloc (by rw[World.size_alloc];omega) _).trans (hb5.mono (show w2.heap.size<=_ by simp only[World.size_alloc];omega)) |>.mono hs2))
   obtain⟨hB5,hs5,c0,c1,d0,d1,g6⟩:=HK1.out _ hb5'.out
   have HG5:=hid g6
   have k0:w5.cell? ⟨w.heap.size+2,0,none⟩=some (.slice none 0 0):=Qa (i:=0) g6
   have k1:w5.cell? ⟨w.heap.size+2,1,none⟩=some (.slice none 0 0):=Qa (i:=1) g6
   have k2:w5.cell? ⟨w.heap.size+2,2,none⟩=some (.slice none 0 0):=Qa (i:=2) g6
   have z0:=Qb (i:=0) g6
   have z1:=Qb (i:=1) g6
   have z2:=Qb (i:=2) g6
   clear g6
   clear hb5
   have hlt2:w.heap.size+2<w5.heap.size:=by omega
   have hne2:w.heap.size+2≠w5.heap.size:=by omega
   have hlt1:w.heap.size+1<w5.heap.size:=by omega
   have hne1:w.heap.size+1≠w5.heap.size:=by omega
   have hlt0:w.heap.size<w5.heap.size:=by omega
   have hne0:w.heap.size≠w5.heap.size:=by omega
   have HX:Hid (∀ w',Below (w5.heap.size+1) (w5.alloc (.cells #[.slice A8 T.es.length n8,.slice A9 T.ks.length n9] 25)) w'->Below w5.heap.size w5 w'/\(w'.cell? ⟨w.heap.size,0,none⟩=some (.slice A3 t.es.length n3)/\w'.cell? ⟨w.heap.size,1,none⟩=some (.slice A4 t.ks.length n4)/\w'.cell? ⟨w.heap.size+1,0,none⟩=some (.int .i64 d.dc)/\w'.cell? ⟨w.heap.size+1,1,none⟩=some (.int .i64 d.n)/\w'.cell? ⟨w5.heap.size,0,none⟩=some (.slice A8 T.es.length n8)/\w'.cell? ⟨w5.heap.size,1,none⟩=some (.slice A9 T.ks.length n9))):=fun w' hb=>by
    have hB:Below w5.heap.size w5 w':=((Below.refl _ w5).alloc (Nat.le_refl _) _).trans (hb.mono (by omega))
    refine⟨hB,(hB.cell (p:=⟨w.heap.size,0,none⟩) hlt0).trans c0,(hB.cell (p:=⟨w.heap.size,1,none⟩) hlt0).trans c1,(hB.cell (p:=⟨w.heap.size+1,0,none⟩) hlt1).trans d0,(hB.cell (p:=⟨w.heap.size+1,1,none⟩) hlt1).trans d1,?_,?_⟩
    ·rw[hb.cell (p:=⟨w5.heap.size,0,none⟩) (by simp),World.cell?_alloc_new];rfl
    ·rw[hb.cell (p:=⟨w5.heap.size,1,none⟩) (by simp),World.cell?_alloc_new];rfl
   have hneA:w.heap.size+1+1≠w.heap.size:=by omega
   have hneB:w.heap.size≠w.heap.size+1+1:=by omega
   clear k0 k1 k2 z0 z1 z2
   go_upto_region 7 with (fail)
   go_region_held3 (fun w'=>w'.cell? ⟨w.heap.size,0,none⟩=some (.slice A3 t.es.length n3)/\w'.cell? ⟨w.heap.size,1,none⟩=some (.slice A4 t.ks.length n4)/\w'.cell? ⟨w.heap.size+1,0,none⟩=some (.int .i64 d.dc)/\w'.cell? ⟨w.heap.size+1,1,none⟩=some (.int .i64 d.n)/\w'.cell? ⟨w5.heap.size,0,none⟩=some (.slice A8 T.es.length n8)/\w'.cell? ⟨w5.heap.size,1,none⟩=some (.slice A9 T.ks.length n9))
    (first|go_keep|exact (HX.out _ hbx.out).2)
    (first|(go_at_call 173;go_loud ((refine (Kb t s d _ _ _ (HC.out _ ((hB5.alloc (by omega) _).drew)) hs hN HTR.out HDR.out hd).mono ?_);rintro e w6 ⟨v6,rfl,ho6,hb6⟩;obtain⟨A10,c10,hv6⟩:=ho6.shape;subst hv6;have HO6:=hid ho6;have hbx:Hid (Below (w5.heap.size+1) (w5.alloc (.cells #[.slice A8 T.es.length n8,.slice A9 T.ks.length n9] 25)) w6):=(((Below.refl (w5.heap.size+1) (w5.alloc (.cells #[.slice A8 T.es.length n8,.slice A9 T.ks.length n9] 25))).drew).trans (hb6.mono (by simp)));have hby:=hid (HX.out _ hbx.out).1;have hs6:w5.heap.size+1<=w6.heap.size:=(by have:=hbx.out.size;simpa using this);have HGx:=hid ((hby.out.block (w.heap.size+2) (by omega)).trans HG5.out);have k0:w6.cell? ⟨w.heap.size+2,0,none⟩=some (.slice none 0 0):=Qa (i:=0) HGx.out;have k1:w6.cell? ⟨w.heap.size+2,1,none⟩=some (.slice none 0 0):=Qa (i:=1) HGx.out;have k2:w6.cell? ⟨w.heap.size+2,2,none⟩=some (.slice none 0 0):=Qa (i:=2) HGx.out;have z0:=Qb (i:=0) HGx.out;have z1:=Qb (i:=1) HGx.out;have z2:=Qb (i:=2) HGx.out;have hlt6:w.heap.size+2<w6.heap.size:=(by omega);have hne6:w.heap.size+2≠w6.heap.size:=(by omega);clear ho6 hb6)))
   all_goals go_wp2_with fail
   obtain⟨r0,r1,r2,hK,hS⟩:=box3 HGx.out (.slice A8 T.es.length n8) (.slice A9 T.ks.length n9) (.slice A10 (seenC (kidT t s) d).length c10)
   have hBW:Below w.heap.size w (((w6.setCell ⟨w.heap.size+2,0,none⟩ (.slice A8 T.es.length n8)).setCell ⟨w.heap.size+2,1,none⟩ (.slice A9 T.ks.length n9)).setCell ⟨w.heap.size+2,2,none⟩ (.slice A10 (seenC (kidT t s) d).length c10)):=(((hB5.trans (hby.out.mono (by omega))).setCell (by simp) _).setCell (by simp) _).setCell (by simp) _
   clear k0 k1 k2 z0 z1 z2
   generalize (((w6.setCell ⟨w.heap.size+2,0,none⟩ (.slice A8 T.es.length n8)).setCell ⟨w.heap.size+2,1,none⟩ (.slice A9 T.ks.length n9)).setCell ⟨w.heap.size+2,2,none⟩ (.slice A10 (seenC (kidT t s) d).length c10))=W at *
   refine bodyPost_ret (v:=.tuple #[.agg #[.slice A8 T.es.length n8,.slice A9 T.ks.length n9,.slice A10 (seenC (kidT t s) d).length c10],.int .i64 0]) (by simp[results,Tryz.results140,go_sem,r0,r1,r2]) rfl ⟨_,_,_,by rw[HE.out],?_,?_,hBW⟩
   ·rw[HTT.out]
    exact Qs (fun b hb=>(hK b (by have:=hb.1;simp only[World.size_alloc]at this;omega)).trans (hby.out.block b hb.2)) (fun b hb=>⟨by have:=hb.1;simp only[World.size_alloc]at this;omega,by have:=hb.2;omega⟩) _ _ _ hrd5
   ·rw[HCC.out]
    refine (HO6.out.sla (by unfold Big;omega)).up (fun b hb=>hK b (by have:=hb.1;simp only[World.size_alloc,World.size_drew]at this;omega)) (fun b hb=>⟨by have:=hb.1;simp only[World.size_alloc,World.size_drew]at this;omega,by have:=hb.2.1;omega⟩) (fun _ _ _ h=>h)
def incE (t:Tr)(n:Int)(d:Dt):Int:=if chkT t d=false∨n < -1099511627776∨1099511627776<n then 1 else if 24<=t.es.length then 4 else 0
def incT (t:Tr)(n:Int)(d:Dt):Tr:=if incE t n d=0 then .mk [⟨d.dc,d.n,ByteArray.empty,n⟩] [] else .mk [] []
def incC (t:Tr)(n:Int)(d:Dt):List Sp:=if incE t n d=0 then ctxOf [d] else []
theorem zQk (t:Tr)(n:Int)(d:Dt)(ve vk:Value)(w:World)(h:t.rd w w.heap.size ve vk)(hN:t.sz<=90000)(hn:I64 n)(hd:d.Ok) :
  Calls Tryz.prog 142 #[.agg #[ve,vk],.int .i64 n,.agg #[.int .i64 d.dc,.int .i64 d.n]] w (RetCE w (incT t n d) (incC t n d) (incE t n d)):=by
 have HC:Hid (∀ w',Below w.heap.size w w'->t.rd w' w'.heap.size ve vk):=fun w' hb=>Qi hb hb.size _ _ _ h
 have hfit:=VM _ _ _ h
 have hel:t.es.length<=140737488355328:=by obtain⟨es,ks⟩:=t;exact hfit.1
 obtain⟨A3,n3,A4,n4,rfl,rfl⟩:=Qj h
 have hb0:=(((Below.refl w.heap.size w).alloc (Nat.le_refl _) (.cells #[.slice A3 t.es.length n3,.slice A4 t.ks.length n4] 25)).alloc (by simp) (.cells #[.int .i64 d.dc,.int .i64 d.n] 78)).alloc (by simp;omega) (.cells #[.slice none 0 0,.slice none 0 0,.slice none 0 0] 29)
 clear h hfit
 go_enter Tryz.func142,Tryz.ntmps142
 go_wp2_with fail
 refine (Zm t d _ _ _ (HC.out _ hb0) hN).mono ?_
 rintro e w1 ⟨rfl,hb1⟩
 have hs1:=hb1.size
 simp only[World.size_alloc]at hs1
 have hB1:Below w.heap.size w w1:=hb0.trans (hb1.mono (by simp;omega))
 have c0:w1.cell? ⟨w.heap.size,0,none⟩=some (.slice A3 t.es.length n3):=by
  rw[hb1.cell (p:=⟨w.heap.size,0,none⟩) (by simp;omega)]
  rw[World.cell?_alloc_lt _ _ _ (by simp;omega),World.cell?_alloc_lt _ _ _ (by simp)];simp
 have d0:w1.cell? ⟨w.heap.size+1,0,none⟩=some (.int .i64 d.dc):=by rw[hb1.cell (p:=⟨w.heap.size+1,0,none⟩) (by simp),World.cell?_alloc_lt _ _ _ (by simp)];simp
 have d1:w1.cell? ⟨w.heap.size+1,1,none⟩=some (.int .i64 d.n):=by rw[hb1.cell (p:=⟨w.heap.size+1,1,none⟩) (by simp),World.cell?_alloc_lt _ _ _ (by simp)];simp
 have hg:w1.heap[w.heap.size+2]?=some (.cells #[.slice none 0 0,.slice none 0 0,.slice none 0 0] 29 (0,0)):=(hb1.block (w.heap.size+2) (by simp)).trans (Qd (by simp))
 have HG:=hid hg
 have k0:w1.cell? ⟨w.heap.size+2,0,none⟩=some (.slice none 0 0):=Qa (i:=0) hg
 have k1:w1.cell? ⟨w.heap.size+2,1,none⟩=some (.slice none 0 0):=Qa (i:=1) hg
 have k2:w1.cell? ⟨w.heap.size+2,2,none⟩=some (.slice none 0 0):=Qa (i:=2) hg
 have z0:=Qb (i:=0) hg
 have z1:=Qb (i:=1) hg
 have z2:=Qb (i:=2) hg
 clear hg hb1
 cases hc:chkT t d
 ·have HE:Hid (incE t n d=1):=by unfold Hid incE;rw[if_pos (.inl hc)]
  rw[show chkI t d=1 by unfold chkI;rw[hc];rfl]
  clear hc
  go_wp2_with fail
  obtain⟨r0,r1,r2,hK,hS⟩:=box3 HG.out (.slice none 0 0) (.slice none 0 0) (.slice none 0 0)
  have hBW:=((hB1.setCell (p:=⟨w.heap.size+2,0,none⟩) (by simp) (.slice none 0 0)).setCell (p:=⟨w.heap.size+2,1,none⟩) (by simp) (.slice none 0 0)).setCell (p:=⟨w.heap.size+2,2,none⟩) (by simp) (.slice none 0 0)
  refine bodyPost_ret (v:=.tuple #[.agg #[.slice none 0 0,.slice none 0 0,.slice none 0 0],.int .i64 1]) (by simp[results,Tryz.results142,go_sem,r0,r1,r2]) rfl ⟨_,_,_,by rw[HE.out],by rw[incT,HE.out];exact Qp _ _,by rw[incC,HE.out];exact SlA.nil,hBW⟩
 rw[show chkI t d=0 by unfold chkI;rw[hc];rfl]
 by_cases h1:n < -1099511627776
 ·have HE:Hid (incE t n d=1):=by unfold Hid incE;rw[if_pos (.inr (.inl h1))]
  clear hc
  go_wp2_with fail
  obtain⟨r0,r1,r2,hK,hS⟩:=box3 HG.out (.slice none 0 0) (.slice none 0 0) (.slice none 0 0)
  have hBW:=((hB1.setCell (p:=⟨w.heap.size+2,0,none⟩) (by simp) (.slice none 0 0)).setCell (p:=⟨w.heap.size+2,1,none⟩) (by simp) (.slice none 0 0)).setCell (p:=⟨w.heap.size+2,2,none⟩) (by simp) (.slice none 0 0)
  refine bodyPost_ret (v:=.tuple #[.agg #[.slice none 0 0,.slice none 0 0,.slice none 0 0],.int .i64 1]) (by simp[results,Tryz.results142,go_sem,r0,r1,r2]) rfl ⟨_,_,_,by rw[HE.out],by rw[incT,HE.out];exact Qp _ _,by rw[incC,HE.out];exact SlA.nil,hBW⟩
 by_cases h2:1099511627776<n
 ·have HE:Hid (incE t n d=1):=by unfold Hid incE;rw[if_pos (.inr (.inr h2))]
  clear hc
  go_wp2_with fail
  obtain⟨r0,r1,r2,hK,hS⟩:=box3 HG.out (.slice none 0 0) (.slice none 0 0) (.slice none 0 0)
  have hBW:=((hB1.setCell (p:=⟨w.heap.size+2,0,none⟩) (by simp) (.slice none 0 0)).setCell (p:=⟨w.heap.size+2,1,none⟩) (by simp) (.slice none 0 0)).setCell (p:=⟨w.heap.size+2,2,none⟩) (by simp) (.slice none 0 0)
  refine bodyPost_ret (v:=.tuple #[.agg #[.slice none 0 0,.slice none 0 0,.slice none 0 0],.int .i64 1]) (by simp[results,Tryz.results142,go_sem,r0,r1,r2]) rfl ⟨_,_,_,by rw[HE.out],by rw[incT,HE.out];exact Qp _ _,by rw[incC,HE.out];exact SlA.nil,hBW⟩
 have hno:¬(chkT t d=false∨n < -1099511627776∨1099511627776<n):=by rw[hc];simp;omega
 by_cases h3:24<=t.es.length
 ·have HE:Hid (incE t n d=4):=by unfold Hid incE;rw[if_neg hno,if_pos h3]
  clear hc hno
  have h3':decide (24<=t.es.length)=true:=by simpa using h3
  go_wp2_with fail
  obtain⟨r0,r1,r2,hK,hS⟩:=box3 HG.out (.slice none 0 0) (.slice none 0 0) (.slice none 0 0)
  have hBW:=((hB1.setCell (p:=⟨w.heap.size+2,0,none⟩) (by simp) (.slice none 0 0)).setCell (p:=⟨w.heap.size+2,1,none⟩) (by simp) (.slice none 0 0)).setCell (p:=⟨w.heap.size+2,2,none⟩) (by simp) (.slice none 0 0)
  refine bodyPost_ret (v:=.tuple #[.agg #[.slice none 0 0,.slice none 0 0,.slice none 0 0],.int .i64 4]) (by simp[results,Tryz.results142,go_sem,r0,r1,r2]) rfl ⟨_,_,_,by rw[HE.out],by rw[incT,HE.out];exact Qp _ _,by rw[incC,HE.out];exact SlA.nil,hBW⟩
 ·have HE:Hid (incE t n d=0):=by unfold Hid incE;rw[if_neg hno,if_neg h3]
  have HDR:=hid (Zn hc)
  clear hc hno
  have h3':decide (24<=t.es.length)=false:=by simpa using h3
  go_wp2_with fail
  refine (X9 [d] _ _ (SlP.oneB (E:=DtE) (x:=d) (cs:=[.int .i64 d.dc,.int .i64 d.n]) ⟨rfl,hd⟩ rfl _ rfl (by simp)) (fun x hx=>by simp at hx;subst hx;exact HDR.out) (by simp)).mono ?_
  rintro e w2 ⟨v2,rfl,ho2,hb2⟩
  obtain⟨A2,c2,rfl⟩:=ho2.shape
  have hs2:=hb2.size
  simp only[World.size_alloc]at hs2
  have hb2':Below w1.heap.size w1 w2:=((Below.refl _ w1).alloc (Nat.le_refl _) _).trans (hb2.mono (by simp))
  have hB2:Below w.heap.size w w2:=hB1.trans (hb2'.mono (by omega))
  have HG2:=hid ((hb2'.block (w.heap.size+2) (by omega)).trans HG.out)
  have e0:w2.cell? ⟨w.heap.size+1,0,none⟩=some (.int .i64 d.dc):=(hb2'.cell (p:=⟨w.heap.size+1,0,none⟩) (by show w.heap.size+1<_;omega)).trans d0
  have e1:w2.cell? ⟨w.heap.size+1,1,none⟩=some (.int .i64 d.n):=(hb2'.cell (p:=⟨w.heap.size+1,1,none⟩) (by show w.heap.size+1<_;omega)).trans d1
  clear k0 k1 k2 z0 z1 z2 c0 d0 d1
  have k0:w2.cell? ⟨w.heap.size+2,0,none⟩=some (.slice none 0 0):=Qa (i:=0) HG2.out
  have k1:w2.cell? ⟨w.heap.size+2,1,none⟩=some (.slice none 0 0):=Qa (i:=1) HG2.out
  have k2:w2.cell? ⟨w.heap.size+2,2,none⟩=some (.slice none 0 0):=Qa (i:=2) HG2.out
  have z0:=Qb (i:=0) HG2.out
  have z1:=Qb (i:=1) HG2.out
  have z2:=Qb (i:=2) HG2.out
  have hlt2:w.heap.size+2<w2.heap.size:=by omega
  have hne2:w.heap.size+2≠w2.heap.size:=by omega
  have HO2:=hid ho2
  clear ho2
  go_wp2_with fail
  obtain⟨r0,r1,r2,hK,hS⟩:=box3 HG2.out (.slice (some ⟨w2.heap.size,0,none⟩) 1 1) (.slice none 0 0) (.slice A2 (ctxOf [d]).length c2)
  have hBW:Below w.heap.size w (((w2.setCell ⟨w.heap.size+2,0,none⟩ (.slice (some ⟨w2.heap.size,0,none⟩) 1 1)).setCell ⟨w.heap.size+2,1,none⟩ (.slice none 0 0)).setCell ⟨w.heap.size+2,2,none⟩ (.slice A2 (ctxOf [d]).length c2)):=((hB2.setCell (by simp) _).setCell (by simp) _).setCell (by simp) _
  clear k0 k1 k2 z0 z1 z2 e0 e1
  generalize (((w2.setCell ⟨w.heap.size+2,0,none⟩ (.slice (some ⟨w2.heap.size,0,none⟩) 1 1)).setCell ⟨w.heap.size+2,1,none⟩ (.slice none 0 0)).setCell ⟨w.heap.size+2,2,none⟩ (.slice A2 (ctxOf [d]).length c2))=W at *
  have q0:(W.alloc (.cells #[.int .i64 d.dc,.int .i64 d.n,.string ⟨#[]⟩,.int .i64 n] 80)).cell? ⟨w.heap.size+1+1,0,none⟩=some (.slice (some ⟨w2.heap.size,0,none⟩) 1 1):=by rw[World.cell?_alloc_lt _ _ _ (by show w.heap.size+2<_;omega)];exact r0
  have q1:(W.alloc (.cells #[.int .i64 d.dc,.int .i64 d.n,.string ⟨#[]⟩,.int .i64 n] 80)).cell? ⟨w.heap.size+1+1,1,none⟩=some (.slice none 0 0):=by rw[World.cell?_alloc_lt _ _ _ (by show w.heap.size+2<_;omega)];exact r1
  have q2:(W.alloc (.cells #[.int .i64 d.dc,.int .i64 d.n,.string ⟨#[]⟩,.int .i64 n] 80)).cell? ⟨w.heap.size+1+1,2,none⟩=some (.slice A2 (ctxOf [d]).length c2):=by rw[World.cell?_alloc_lt _ _ _ (by show w.heap.size+2<_;omega)];exact r2
  refine bodyPost_ret (v:=.tuple #[.agg #[.slice (some ⟨w2.heap.size,0,none⟩) 1 1,.slice none 0 0,.slice A2 (ctxOf [d]).length c2],.int .i64 0]) (by simp[results,Tryz.results142,go_sem,q0,q1,q2]) rfl ⟨_,_,_,by rw[HE.out],?_,?_,hBW.alloc (by omega) _⟩
  ·rw[incT,HE.out,if_pos rfl,Zh]
   refine⟨?_,SlA.nil⟩
   exact SlA.one (x:=(⟨d.dc,d.n,ByteArray.empty,n⟩:En)) (cs:=[.int .i64 d.dc,.int .i64 d.n,.string ByteArray.empty,.int .i64 n]) (e:=80) (z:=(0,0)) ⟨rfl,En.Ok.mk' hd hn⟩ rfl (Qd hS.symm) ⟨by omega,by rw[World.size_alloc];omega⟩
  ·rw[incC,HE.out,if_pos rfl]
   refine (HO2.out.sla (by have:=Zk [d] 4;unfold ctxOf Big;simp at this;omega)).up (fun b hb=>(Qg (by have:=hb.2.1;omega)).trans (hK b (by have:=hb.1;simp only[World.size_alloc]at this;omega))) (fun b hb=>⟨by have:=hb.1;simp only[World.size_alloc]at this;omega,by rw[World.size_alloc];have:=hb.2.1;omega⟩) (fun _ _ _ h=>h)
theorem Xb {l:List Dt}(h:∀ d∈l,d.right=true):SpsOk (ctxOf l):=fun s hs=>by
 have ha:=Qq h
 have hd:=Xx (fun i=>ofL (numsL l i)) 4 s hs
 unfold ctxOf Y6 at hs
 obtain⟨i,_,hs⟩:=List.mem_flatMap.1 hs
 obtain⟨r,hr,rfl⟩:=List.mem_map.1 hs
 have:=Ka _ none (ZN (J7 h i)).1 r hr
 unfold runOk at this
 exact⟨by show 0<=r.1;omega,by show r.1<=_;omega,by show 0<=r.2;omega,by show r.2<=_;omega⟩
theorem OwnP.single {α:Type}{w:World}{base n sz:Nat}{e:TypeId}{E:α->List Value->Prop}{x:α}{cs:List Value}(hE:E x cs)(hl:cs.length=sz)(h:w.heap[n]?=some (.cells cs.toArray e (0,0)))(hb:base<=n):OwnP w base e sz E (.slice (some ⟨n,0,none⟩) 1 1) [x]:=by
 refine⟨[cs],⟨rfl,fun j y hy=>?_⟩,by simp[hl],.inr ⟨n,1,cs.toArray,rfl,hb,h,Nat.le_refl _,by simp[maxLen],by simp[hl],by simp[List.take_of_length_le (Nat.le_of_eq hl)]⟩⟩
 match j,hy with
 |0,hy=>simp at hy;subst hy;exact⟨cs,rfl,hE,hl⟩
def ownD (t:Tr):List Dt:=t.es.map En.dot
theorem qJz {t:Tr}(h:t.right 5=true):∀ d∈ownD t,d.right=true:=fun d hd=>Q0 t 5 h d (by
 obtain⟨es,ks⟩:=t
 rw[Tr.dots];exact List.mem_append_left _ hd)
theorem zQl (t:Tr):(ownD t).length<=t.sz:=by
 obtain⟨es,ks⟩:=t
 unfold ownD;rw[List.length_map,Tr.sz];simp only[Tr.es];omega
def wrtB (t:Tr)(s:ByteArray)(d:Dt):Bool:=chkT t d&&decide (s.size<=30)
def wrtE (t:Tr)(s:ByteArray)(d:Dt):Int:=if wrtB t s d then 0 else 1
def wrtT (t:Tr)(s:ByteArray)(d:Dt):Tr:=if wrtB t s d then .mk [⟨d.dc,d.n,s,0⟩] [] else .mk [] []
def wrtC (t:Tr)(s:ByteArray)(d:Dt):List Sp:=if wrtB t s d then ctxOf (d :: ownD t) else []
theorem wrtEn {d:Dt}{s:ByteArray}(hd:d.Ok)(hs:s.size<=Big):EnE (⟨d.dc,d.n,s,0⟩:En) [.int .i64 d.dc,.int .i64 d.n,.string s,.int .i64 0]:=⟨rfl,hd.dc,hd.n,⟨by show (_:Int)<=0;decide,by show (0:Int)<=_;decide⟩,hs⟩
theorem qJ0 (t:Tr)(s:ByteArray)(d:Dt)(ve vk:Value)(w:World)(h:t.rd w w.heap.size ve vk)(hs:s.size<=Big)(hN:t.sz<=4000)(hd:d.Ok) :
  Calls Tryz.prog 143 #[.agg #[ve,vk],.string s,.agg #[.int .i64 d.dc,.int .i64 d.n]] w (RetCE w (wrtT t s d) (wrtC t s d) (wrtE t s d)):=by
 have hsb:s.size<=140737488355328:=hs
 have hol:=zQl t
 have HSL:Hid (SlP w w.heap.size 4 EnE ve t.es):=by obtain⟨es,ks⟩:=t;exact (QA.1 h).1
 have HC:Hid (∀ w',Below w.heap.size w w'->t.rd w' w'.heap.size ve vk):=fun w' hb=>Qi hb hb.size _ _ _ h
 obtain⟨A3,n3,A4,n4,rfl,rfl⟩:=Qj h
 have hb0:=(((Below.refl w.heap.size w).alloc (Nat.le_refl _) (.cells #[.slice A3 t.es.length n3,.slice A4 t.ks.length n4] 25)).alloc (by simp) (.cells #[.int .i64 d.dc,.int .i64 d.n] 78)).alloc (by simp;omega) (.cells #[.slice none 0 0,.slice none 0 0,.slice none 0 0] 29)
 clear h
 go_enter Tryz.func143,Tryz.ntmps143
 go_wp2_with fail
 refine (Zm t d _ _ _ (HC.out _ hb0) (by omega)).mono ?_
 rintro e w1 ⟨rfl,hb1⟩
 have hs1:=hb1.size
 simp only[World.size_alloc]at hs1
 have hB1:Below w.heap.size w w1:=hb0.trans (hb1.mono (by simp;omega))
 have c0:w1.cell? ⟨w.heap.size,0,none⟩=some (.slice A3 t.es.length n3):=by
  rw[hb1.cell (p:=⟨w.heap.size,0,none⟩) (by simp;omega)]
  rw[World.cell?_alloc_lt _ _ _ (by simp;omega),World.cell?_alloc_lt _ _ _ (by simp)];simp
 have c1:w1.cell? ⟨w.heap.size,1,none⟩=some (.slice A4 t.ks.length n4):=by
  rw[hb1.cell (p:=⟨w.heap.size,1,none⟩) (by simp;omega)]
  rw[World.cell?_alloc_lt _ _ _ (by simp;omega),World.cell?_alloc_lt _ _ _ (by simp)];simp
 have d0:w1.cell? ⟨w.heap.size+1,0,none⟩=some (.int .i64 d.dc):=by rw[hb1.cell (p:=⟨w.heap.size+1,0,none⟩) (by simp),World.cell?_alloc_lt _ _ _ (by simp)];simp
 have d1:w1.cell? ⟨w.heap.size+1,1,none⟩=some (.int .i64 d.n):=by rw[hb1.cell (p:=⟨w.heap.size+1,1,none⟩) (by simp),World.cell?_alloc_lt _ _ _ (by simp)];simp
 have hg:w1.heap[w.heap.size+2]?=some (.cells #[.slice none 0 0,.slice none 0 0,.slice none 0 0] 29 (0,0)):=(hb1.block (w.heap.size+2) (by simp)).trans (Qd (by simp))
 have HG:=hid hg
 have k0:w1.cell? ⟨w.heap.size+2,0,none⟩=some (.slice none 0 0):=Qa (i:=0) hg
 have k1:w1.cell? ⟨w.heap.size+2,1,none⟩=some (.slice none 0 0):=Qa (i:=1) hg
 have k2:w1.cell? ⟨w.heap.size+2,2,none⟩=some (.slice none 0 0):=Qa (i:=2) hg
 have z0:=Qb (i:=0) hg
 have z1:=Qb (i:=1) hg
 have z2:=Qb (i:=2) hg
 clear hg hb1
 cases hc:chkT t d
 ·have HI:Hid (chkI t d=1):=by unfold Hid chkI;rw[hc];rfl
  have HE:Hid (wrtE t s d=1):=by unfold Hid wrtE wrtB;rw[hc];rfl
  have HTT:Hid (wrtT t s d=.mk [] []):=by unfold Hid wrtT wrtB;rw[hc];rfl
  have HCC:Hid (wrtC t s d=[]):=by unfold Hid wrtC wrtB;rw[hc];rfl
  rw[HI.out]
  clear hc
  go_wp2_with fail
  obtain⟨r0,r1,r2,hK,hS⟩:=box3 HG.out (.slice none 0 0) (.slice none 0 0) (.slice none 0 0)
  have hBW:=((hB1.setCell (p:=⟨w.heap.size+2,0,none⟩) (by simp) (.slice none 0 0)).setCell (p:=⟨w.heap.size+2,1,none⟩) (by simp) (.slice none 0 0)).setCell (p:=⟨w.heap.size+2,2,none⟩) (by simp) (.slice none 0 0)
  refine bodyPost_ret (v:=.tuple #[.agg #[.slice none 0 0,.slice none 0 0,.slice none 0 0],.int .i64 1]) (by simp[results,Tryz.results143,go_sem,r0,r1,r2]) rfl ⟨_,_,_,by rw[HE.out],by rw[HTT.out];exact Qp _ _,by rw[HCC.out];exact SlA.nil,hBW⟩
 have HI:Hid (chkI t d=0):=by unfold Hid chkI;rw[hc];rfl
 rw[HI.out]
 have h30:decide ((30:Int)<(s.size:Int)) = !decide (s.size<=30):=by rw[Bool.eq_iff_iff];simp;omega
 cases hz:decide (s.size<=30)
 ·have HE:Hid (wrtE t s d=1):=by unfold Hid wrtE wrtB;rw[hc,hz];rfl
  have HTT:Hid (wrtT t s d=.mk [] []):=by unfold Hid wrtT wrtB;rw[hc,hz];rfl
  have HCC:Hid (wrtC t s d=[]):=by unfold Hid wrtC wrtB;rw[hc,hz];rfl
  rw[hz]at h30
  simp only[Bool.not_false]at h30
  clear hc hz
  go_wp2_with fail
  obtain⟨r0,r1,r2,hK,hS⟩:=box3 HG.out (.slice none 0 0) (.slice none 0 0) (.slice none 0 0)
  have hBW:=((hB1.setCell (p:=⟨w.heap.size+2,0,none⟩) (by simp) (.slice none 0 0)).setCell (p:=⟨w.heap.size+2,1,none⟩) (by simp) (.slice none 0 0)).setCell (p:=⟨w.heap.size+2,2,none⟩) (by simp) (.slice none 0 0)
  refine bodyPost_ret (v:=.tuple #[.agg #[.slice none 0 0,.slice none 0 0,.slice none 0 0],.int .i64 1]) (by simp[results,Tryz.results143,go_sem,r0,r1,r2]) rfl ⟨_,_,_,by rw[HE.out],by rw[HTT.out];exact Qp _ _,by rw[HCC.out];exact SlA.nil,hBW⟩
 rw[hz]at h30
 simp only[Bool.not_true]at h30
 have HE:Hid (wrtE t s d=0):=by unfold Hid wrtE wrtB;rw[hc,hz];rfl
 have HTT:Hid (wrtT t s d=.mk [⟨d.dc,d.n,s,0⟩] []):=by unfold Hid wrtT wrtB;rw[hc,hz];rfl
 have HCC:Hid (wrtC t s d=ctxOf (d :: ownD t)):=by unfold Hid wrtC wrtB;rw[hc,hz];rfl
 have hdr:=Zn hc
 have htr:=Yj hc
 have HRA:Hid (∀ x∈d :: ownD t,x.right=true):=fun x hx=>by
  rcases List.mem_cons.1 hx with rfl|hx
  ·exact hdr
  ·exact qJz htr x hx
 clear hc hz hdr htr
 have HGB:Hid (∀ w',Below w1.heap.size w1 w'->w'.cell? ⟨w.heap.size+1,0,none⟩=some (.int .i64 d.dc)/\w'.cell? ⟨w.heap.size+1,1,none⟩=some (.int .i64 d.n)/\w'.heap[w.heap.size+2]?=some (.cells #[.slice none 0 0,.slice none 0 0,.slice none 0 0] 29 (0,0))):=fun w' hb=>
  ⟨(hb.cell (p:=⟨w.heap.size+1,0,none⟩) (by show w.heap.size+1<_;omega)).trans d0,(hb.cell (p:=⟨w.heap.size+1,1,none⟩) (by show w.heap.size+1<_;omega)).trans d1,(hb.block _ (by omega)).trans HG.out⟩
 have hlt0:w.heap.size<w1.heap.size:=by omega
 have hne0:w.heap.size≠w1.heap.size:=by omega
 have hne1:w.heap.size+1≠w1.heap.size:=by omega
 clear k0 k1 k2 z0 z1 z2
 have HW0:Hid (OwnP (w1.alloc (.cells #[.int .i64 d.dc,.int .i64 d.n] 78)) w1.heap.size 78 2 DtE (.slice (some ⟨w1.heap.size,0,none⟩) 1 1) [d]):=OwnP.single (x:=d) (cs:=[.int .i64 d.dc,.int .i64 d.n]) ⟨rfl,hd⟩ rfl (Qd rfl) (Nat.le_refl _)
 have hel:t.es.length<=4000:=by unfold ownD at hol;rw[List.length_map]at hol;omega
 go_wp2_with fail
 go_loopw [9,30] (fun v i wr=>∃ k:Nat,k<=t.es.length/\i=.int .i64 k/\OwnP wr w1.heap.size 78 2 DtE v (d :: (t.es.take k).map En.dot)/\Below w1.heap.size w1 wr) (fun _ i _=>t.es.length-(intOf i).toNat)
 case atStart=>exact⟨0,Nat.zero_le _,rfl,HW0.out,(Below.refl _ w1).alloc (Nat.le_refl _) _⟩
 case round=>
  obtain⟨k,hk,rfl,hown,hb⟩:=hrel
  have hsz:=hb.size
  have hB0:Below w.heap.size w wr:=hB1.trans (hb.mono (by omega))
  by_cases hlt:k<t.es.length
  ·obtain⟨x,hx⟩:∃ x,t.es[k]?=some x:=⟨_,List.getElem?_eq_getElem hlt⟩
   obtain⟨Ae,ne,hve,_,_,b3⟩:=HSL.out
   cases hve
   obtain⟨b,off,rfl,hbB,hcc⟩:=b3 (by intro h0;rw[h0]at hlt;simp at hlt)
   obtain⟨cs,⟨rfl,hok⟩,_,hu⟩:=hcc k _ hx
   have e0:wr.cell? ⟨b,off+k*4,none⟩=some (.int .i64 x.dc):=(hB0.cell hbB).trans (hu 0 _ rfl)
   have e1:wr.cell? ⟨b,off+k*4+1,none⟩=some (.int .i64 x.n):=(hB0.cell hbB).trans (hu 1 _ rfl)
   have e2:wr.cell? ⟨b,off+k*4+2,none⟩=some (.string x.s):=(hB0.cell hbB).trans (hu 2 _ rfl)
   have e3:wr.cell? ⟨b,off+k*4+3,none⟩=some (.int .i64 x.v):=(hB0.cell hbB).trans (hu 3 _ rfl)
   have hdx:x.dot.Ok:=⟨hok.dc,hok.n⟩
   have HX:Hid (d :: (t.es.take (k+1)).map En.dot=d :: (t.es.take k).map En.dot++[x.dot]):=by
    unfold Hid;rw[List.take_add_one,hx];simp
   have HL:Hid ((d :: (t.es.take k).map En.dot).length + [x.dot].length<=Few):=by unfold Hid Few;simp;omega
   have HBW:Hid (w1.heap.size<=wr.heap.size+1+1):=by unfold Hid;omega
   clear hu hcc b3 hx hok c0 c1 d0 d1
   go_wp2_with (at_builtin;go_loud (refine Qk rfl (.tmp 34) (.tmp 37) _ rfl eiDot (by decide) (by decide) (fun _ _ h=>h.one) rfl ((hown.alloc _).alloc _) rfl (SlP.one (x:=x.dot) (cs:=[.int .i64 x.dc,.int .i64 x.n]) ⟨rfl,hdx⟩ rfl _ (World.size_alloc _ _).symm) HL.out (by rw[World.size_alloc,World.size_alloc];exact HBW.out) ?_);intro v1 w2 hown1 hb1 _)
   go_roundw
   case rel=>
    refine⟨k+1,by omega,by go_num,by rw[HX.out];exact hown1,((hb.alloc (by omega) _).alloc (by simp;omega) _).trans hb1⟩
   case measure=>simp[intOf];omega
  ·obtain rfl:k=t.es.length:=by omega
   rw[List.take_of_length_le (Nat.le_refl _)]at hown
   have hown:OwnP wr w1.heap.size 78 2 DtE _ (d :: ownD t):=hown
   have HO:=hid (hown.sl (by unfold Big;simp;omega))
   clear hown c0 c1 d0 d1
   go_wp2_with fail
   refine (X9 (d :: ownD t) _ wr HO.out HRA.out (by simp;omega)).mono ?_
   rintro e w2 ⟨v2,rfl,ho2,hb2⟩
   obtain⟨A5,c5,rfl⟩:=ho2.shape
   have hs2:=hb2.size
   have hB2:Below w1.heap.size w1 w2:=hb.trans (hb2.mono (by omega))
   obtain⟨d0,d1,g6⟩:=HGB.out w2 hB2
   have HG2:=hid g6
   have k0:w2.cell? ⟨w.heap.size+2,0,none⟩=some (.slice none 0 0):=Qa (i:=0) g6
   have k1:w2.cell? ⟨w.heap.size+2,1,none⟩=some (.slice none 0 0):=Qa (i:=1) g6
   have k2:w2.cell? ⟨w.heap.size+2,2,none⟩=some (.slice none 0 0):=Qa (i:=2) g6
   have z0:=Qb (i:=0) g6
   have z1:=Qb (i:=1) g6
   have z2:=Qb (i:=2) g6
   have HO2:=hid ho2
   have hcl:=QL (d :: ownD t)
   have hlt2:w.heap.size+2<w2.heap.size:=by omega
   have hne2:w.heap.size+2≠w2.heap.size:=by omega
   clear g6 ho2
   generalize ctxOf (d :: ownD t)=C at *
   go_wp2_with fail
   obtain⟨r0,r1,r2,hK,hS⟩:=box3 HG2.out (.slice (some ⟨w2.heap.size,0,none⟩) 1 1) (.slice none 0 0) (.slice A5 C.length c5)
   have hBW:Below w.heap.size w (((w2.setCell ⟨w.heap.size+2,0,none⟩ (.slice (some ⟨w2.heap.size,0,none⟩) 1 1)).setCell ⟨w.heap.size+2,1,none⟩ (.slice none 0 0)).setCell ⟨w.heap.size+2,2,none⟩ (.slice A5 C.length c5)):=(((hB1.trans (hB2.mono (by omega))).setCell (by simp) _).setCell (by simp) _).setCell (by simp) _
   clear k0 k1 k2 z0 z1 z2
   generalize (((w2.setCell ⟨w.heap.size+2,0,none⟩ (.slice (some ⟨w2.heap.size,0,none⟩) 1 1)).setCell ⟨w.heap.size+2,1,none⟩ (.slice none 0 0)).setCell ⟨w.heap.size+2,2,none⟩ (.slice A5 C.length c5))=W at *
   have q0:(W.alloc (.cells #[.int .i64 d.dc,.int .i64 d.n,.string s,.int .i64 0] 80)).cell? ⟨w.heap.size+1+1,0,none⟩=some (.slice (some ⟨w2.heap.size,0,none⟩) 1 1):=by rw[World.cell?_alloc_lt _ _ _ (by show w.heap.size+2<_;omega)];exact r0
   have q1:(W.alloc (.cells #[.int .i64 d.dc,.int .i64 d.n,.string s,.int .i64 0] 80)).cell? ⟨w.heap.size+1+1,1,none⟩=some (.slice none 0 0):=by rw[World.cell?_alloc_lt _ _ _ (by show w.heap.size+2<_;omega)];exact r1
   have q2:(W.alloc (.cells #[.int .i64 d.dc,.int .i64 d.n,.string s,.int .i64 0] 80)).cell? ⟨w.heap.size+1+1,2,none⟩=some (.slice A5 C.length c5):=by rw[World.cell?_alloc_lt _ _ _ (by show w.heap.size+2<_;omega)];exact r2
   refine bodyPost_ret (v:=.tuple #[.agg #[.slice (some ⟨w2.heap.size,0,none⟩) 1 1,.slice none 0 0,.slice A5 C.length c5],.int .i64 0]) (by simp[results,Tryz.results143,go_sem,q0,q1,q2]) rfl ⟨_,_,_,by rw[HE.out],?_,?_,hBW.alloc (by omega) _⟩
   ·rw[HTT.out,Zh]
    refine⟨?_,SlA.nil⟩
    exact SlA.one (x:=(⟨d.dc,d.n,s,0⟩:En)) (cs:=[.int .i64 d.dc,.int .i64 d.n,.string s,.int .i64 0]) (e:=80) (z:=(0,0)) (wrtEn hd hs) rfl (Qd hS.symm) ⟨by omega,by rw[World.size_alloc];omega⟩
   ·rw[HCC.out]
    refine (HO2.out.sla (by unfold Big;simp at hcl;omega)).up (fun b hb=>(Qg (by have:=hb.2.1;omega)).trans (hK b (by have:=hb.1;omega))) (fun b hb=>⟨by have:=hb.1;omega,by rw[World.size_alloc];have:=hb.2.1;omega⟩) (fun _ _ _ h=>h)
def kindB (k:ByteArray):Int:=match k.data.toList with
 |[]=>0
 |b :: _=>if b=102 then 1 else if b=115 then 2 else if b=99 then 3 else if b=114 then 4 else if b=109 then 5 else 0
def Q3 (k:ByteArray):Bool:=decide (30<k.size)||decide (kindB k=0)
def noMap (k:ByteArray):Bool:=!decide (kindB k=5)
def pathI (p:List ByteArray):Int:=if p.length<1∨3<p.length∨p.any Q3=true then 1 else if p.dropLast.any noMap then 6 else 0
def lastK (p:List ByteArray):ByteArray:=(p[p.length-1]?).getD ByteArray.empty
def actB (a k:Int):Bool:=if a=1∨a=2 then decide (k=1) else if a=3∨a=4 then decide (k=2) else if a=5 then decide (k=3) else if a=6 then decide (k=4) else decide (a=7)
def opTxt (o:Opr):Bool:=if o.act=3∨o.act=4 then keyB o.s else if o.act=6 then decide (o.s.size<=30) else decide (o.s.size=0)
def opNum (o:Opr):Bool:=if o.act=5 then decide (-1099511627776<=o.n/\o.n<=1099511627776) else decide (o.n=0)
def opI (o:Opr):Int:=if pathI o.path≠0 then pathI o.path else if !actB o.act (kindB (lastK o.path)) then 6 else if opTxt o&&opNum o then 0 else 1
def Qu (a:Int):Bool:=decide (a=1∨a=3∨a=5∨a=6)
def endP (o:Opr):List ByteArray:=o.path++(if o.act=3 then [o.s] else [])
def fullAt (t:Tr)(p:List ByteArray)(k:Nat):Bool:=decide (24<=(getK t (p.take k)).ks.length)&&!hasK (getK t (p.take k)) ((p[k]?).getD ByteArray.empty)
def fullP (t:Tr)(p:List ByteArray):Bool:=(List.range p.length).any (fullAt t p)
def fullB (t:Tr)(o:Opr):Bool:=Qu o.act&&(fullP t (endP o)||decide (o.act=5)&&decide (24<=(getK t (endP o)).es.length))
def seesD (t:Tr)(o:Opr):List Dt:=if o.act=3∨o.act=4 then (getK t (o.path++[o.s])).dots else if o.act=5 then [] else if o.act=6 then ownD (getK t o.path) else (getK t o.path).dots
def entE (o:Opr)(d:Dt):En:=⟨d.dc,d.n,if o.act=6 then o.s else ByteArray.empty,o.n⟩
def pathT:List ByteArray->En->Tr
 |[],e=>.mk [e] []
 |k :: p,e=>.mk [] [(k,pathT p e)]
def appI (t:Tr)(o:Opr)(d:Dt):Int:=if !t.right 5 then 1 else if opI o≠0 then opI o else if !chkT t d then 1 else if fullB t o then 4 else 0
def appT (t:Tr)(o:Opr)(d:Dt):Tr:=if appI t o d=0/\Qu o.act=true then pathT (endP o) (entE o d) else .mk [] []
def appC (t:Tr)(o:Opr)(d:Dt):List Sp:=if appI t o d=0 then ctxOf (d :: seesD t o) else []
def RetS (w:World)(t:Tr)(e:Ending)(w':World):Prop:=
 ∃ ve vk,e=.returned (.agg #[ve,vk])/\t.rd w w.heap.size ve vk/\Below w.heap.size w w'
theorem qYb (t:Tr)(s:ByteArray)(ve vk:Value)(w:World)(h:t.rd w w.heap.size ve vk)(ho:t.Ord) :
  Calls Tryz.prog 156 #[.agg #[ve,vk],.string s] w (RetS w (kidT t s)):=by
 have HD:=hid h
 have hS:t.ks.Pairwise fun a b=>ltS a.1 b.1=true:=by obtain⟨es,ks⟩:=t;exact (QQ.1 ho).2.1
 have HO:=hid ho
 obtain⟨A3,n3,A4,n4,rfl,rfl⟩:=Qj h
 have hb0:Below w.heap.size w ((w.alloc (.cells #[.slice A3 t.es.length n3,.slice A4 t.ks.length n4] 25)).alloc (.cells #[.slice none 0 0,.slice none 0 0] 25)):=((Below.refl _ w).alloc (Nat.le_refl _) _).alloc (by simp) _
 have hkl:t.ks.length<=140737488355328:=by
  have h1:=HD.out;obtain⟨es,ks⟩:=t;obtain⟨_,_,_,_,h2,_⟩:=(QA.1 h1).2;exact h2
 clear h
 go_enter Tryz.func156,Tryz.ntmps156
 go_wp2_with fail
 refine (zXj t.ks s _ _ (Xy (Qi hb0 hb0.size t _ _ HD.out)) hS).mono ?_
 rintro e w1 ⟨he,hb1⟩
 have hs1:=hb1.size
 simp only[World.size_alloc]at hs1
 have hB1:Below w.heap.size w w1:=hb0.trans (hb1.mono (by simp;omega))
 have g2:=(hb1.block w.heap.size (by simp;omega)).trans ((Qg (by simp)).trans (Qd (o:=.cells #[.slice A3 t.es.length n3,.slice A4 t.ks.length n4] 25) rfl))
 have g4:=(hb1.block (w.heap.size+1) (by simp)).trans (Qd (w:=w.alloc (.cells #[.slice A3 t.es.length n3,.slice A4 t.ks.length n4] 25)) (by simp))
 have HG4:=hid g4
 have c0:=Qa (i:=0) g2
 have c1:=Qa (i:=1) g2
 obtain⟨k0,k1,z0,z1⟩:=bz2 g4
 try simp only[List.getElem?_toArray,List.getElem?_cons_zero,List.getElem?_cons_succ]at c0 c1 k0 k1
 clear g2 g4 hS hb1
 rcases he with⟨i,u,rfl,hi⟩|⟨i,rfl,hn⟩
 ·have hil:i<t.ks.length:=(List.getElem?_eq_some_iff.1 hi).1
  have hKT:kidT t s=u:=YS HO.out (List.mem_of_getElem? hi)
  obtain⟨b',off',rfl,hbB',vAe,vne,vAk,vnk,HRV,q1,q2⟩:∃ b' off',A4=some ⟨b',off',none⟩/\b'<w.heap.size/\∃ vAe vne vAk vnk,Hid (u.rd w w.heap.size (.slice vAe u.es.length vne) (.slice vAk u.ks.length vnk))/\w1.cell? ⟨b',off'+i*3+1,none⟩=some (.slice vAe u.es.length vne)/\w1.cell? ⟨b',off'+i*3+2,none⟩=some (.slice vAk u.ks.length vnk):=by
   have h1:=HD.out
   obtain⟨es,ks⟩:=t
   obtain⟨Ak',ck',he,_,_,h3⟩:=(QA.1 h1).2
   cases he
   obtain⟨b',off',rfl,hbB',hc'⟩:=h3 (by rintro rfl;simp[Tr.ks]at hil)
   obtain⟨cs,⟨ve',vk',rfl,_,hrd'⟩,_,hu'⟩:=hc' i _ hi
   obtain⟨vAe,vne,vAk,vnk,rfl,rfl⟩:=Qj hrd'
   exact⟨b',off',rfl,hbB',vAe,vne,vAk,vnk,hrd',(hB1.cell (p:=⟨b',off'+i*3+1,none⟩) hbB').trans (hu' 1 _ rfl),(hB1.cell (p:=⟨b',off'+i*3+2,none⟩) hbB').trans (hu' 2 _ rfl)⟩
  have HKT:=hid hKT
  clear hi hKT
  go_wp2_with fail
  have hW0:=Qe (i:=1) (Qe (i:=0) HG4.out (.slice vAe u.es.length vne)) (.slice vAk u.ks.length vnk)
  have r0:=(Qa (i:=0) hW0).trans (show _=some (.slice vAe u.es.length vne) by simp)
  have r1:=(Qa (i:=1) hW0).trans (show _=some (.slice vAk u.ks.length vnk) by simp)
  refine bodyPost_ret (v:=.agg #[.slice vAe u.es.length vne,.slice vAk u.ks.length vnk]) (by simp[results,Tryz.results156,go_sem,r0,r1]) rfl ⟨_,_,rfl,(by rw[HKT.out];exact HRV.out),(hB1.setCell (by simp) _).setCell (by simp) _⟩
 ·have HKT:Hid (kidT t s=.mk [] []):=YD hn
  go_wp2_with fail
  have hW0:=Qe (i:=1) (Qe (i:=0) HG4.out (.slice none 0 0)) (.slice none 0 0)
  have r0:=(Qa (i:=0) hW0).trans (show _=some (.slice none 0 0) by simp)
  have r1:=(Qa (i:=1) hW0).trans (show _=some (.slice none 0 0) by simp)
  refine bodyPost_ret (v:=.agg #[.slice none 0 0,.slice none 0 0]) (by simp[results,Tryz.results156,go_sem,r0,r1]) rfl ⟨_,_,rfl,(by rw[HKT.out];exact qXm),(hB1.setCell (by simp) _).setCell (by simp) _⟩
theorem Jc (t:Tr):empB t.es.length t.ks.length=t.empty:=by
 obtain⟨es,ks⟩:=t
 rw[Bool.eq_iff_iff];simp[empB,Tr.empty,Tr.es,Tr.ks]
def joinK (a b:Tr):List ByteArray:=cmpL (srtL ((a.ks++b.ks).map (·.1)))
def joinF (f:ByteArray->Tr)(k:ByteArray):List Kd:=if (f k).empty then [] else [(k,f k)]
def joinT:Nat->List Sp->List Sp->Tr->Tr->Tr
 |0,_,_,_,_=>.mk [] []
 |n+1,ca,cb,a,b=>.mk (entL ca cb a.es b.es) ((joinK a b).flatMap (joinF fun k=>joinT n ca cb (kidT a k) (kidT b k)))
theorem qVt (f:ByteArray->Tr)(k:ByteArray):(joinF f k).length<=1:=by unfold joinF;split<;>simp
theorem Jd (f:ByteArray->Tr):∀ l:List ByteArray,(l.flatMap (joinF f)).length<=l.length
 |[]=>by simp
 |k :: l=>by
  have h1:=qVt f k
  have h2:=Jd f l
  rw[List.flatMap_cons,List.length_append,List.length_cons];omega
theorem qJ1 {l:List ByteArray}{k:Nat}{x:ByteArray}(h:l[k]?=some x)(f:ByteArray->Tr):(l.take (k+1)).flatMap (joinF f)=(l.take k).flatMap (joinF f)++joinF f x:=by
 rw[List.take_add_one,h,List.flatMap_append];simp
theorem zQm (l:List ByteArray):(cmpL l).length<=l.length:=by
 unfold cmpL
 have:=Lib.compact_length_le (l.map toBy)
 rw[List.length_map]at this ⊢;exact this
theorem zQn {l:List ByteArray}{x:ByteArray}(h:x∈cmpL l):x∈l:=by
 unfold cmpL at h
 obtain⟨y,hy,rfl⟩:=List.mem_map.1 h
 unfold Lib.compact Lib.compactUpTo at hy
 obtain⟨j,hj,rfl⟩:=List.mem_map.1 hy
 have hj':j<(l.map toBy).length:=List.mem_range.1 (List.mem_filter.1 hj).1
 rw[getElem!_pos _ j (by simpa using hj')]
 simp[qVp]
theorem zQo {l:List ByteArray}{x:ByteArray}(h:x∈srtL l):x∈l:=by
 unfold srtL at h
 obtain⟨y,hy,rfl⟩:=List.mem_map.1 h
 obtain⟨z,hz,rfl⟩:=List.mem_map.1 ((List.mergeSort_perm _ _).subset hy)
 exact hz
theorem qVu {a b:Tr}{x:ByteArray}(h:x∈joinK a b):∃ t,(x,t)∈a.ks∨(x,t)∈b.ks:=by
 have:=zQo (zQn h)
 obtain⟨⟨k,t⟩,hm,rfl⟩:=List.mem_map.1 this
 rcases List.mem_append.1 hm with h|h
 ·exact⟨t,.inl h⟩
 ·exact⟨t,.inr h⟩
theorem qVv (a b:Tr):(joinK a b).length<=a.ks.length+b.ks.length:=by
 unfold joinK
 have h1:=zQm (srtL ((a.ks++b.ks).map (·.1)))
 rw[Jw,List.length_map,List.length_append]at h1
 exact h1
theorem Kc (t:Tr):1<=t.dep:=by obtain⟨es,ks⟩:=t;rw[Tr.dep];omega
theorem Je {t u:Tr}{k:ByteArray}(h:(k,u)∈t.ks):u.dep+1<=t.dep:=by
 obtain⟨es,ks⟩:=t
 rw[Tr.dep];have:=qZq (show (k,u)∈ks from h);omega
theorem YX {t:Tr}(ho:t.Ord){n:Nat}(h:t.dep<=n+1)(hn:1<=n)(k:ByteArray):(kidT t k).dep<=n:=by
 by_cases hm:∃ u,(k,u)∈t.ks
 ·obtain⟨u,hm⟩:=hm
  rw[YS ho hm];have:=Je hm;omega
 ·rw[YD fun u hu=>hm ⟨u,hu⟩];simp[Tr.dep,Tr.depL];omega
theorem YK {a b:Tr}{n:Nat}(ha:a.dep<=n+1)(hb:b.dep<=n+1){x:ByteArray}(h:x∈joinK a b):1<=n:=by
 obtain⟨t,h|h⟩:=qVu h
 ·have:=Je h;have:=Kc t;omega
 ·have:=Je h;have:=Kc t;omega
theorem es_sz (t:Tr):t.es.length+t.ks.length<=t.sz:=by
 obtain⟨es,ks⟩:=t
 have:=JG ks
 rw[Tr.sz];simp only[Tr.es,Tr.ks];omega
theorem zZv {t:Tr}{w:World}{B:Nat}{ve vk:Value}(h:t.rd w B ve vk):SlP w B 4 EnE ve t.es:=by
 obtain⟨es,ks⟩:=t;exact (QA.1 h).1
theorem XD {w w':World}{o:Obj}(h:Below (w.alloc o).heap.size (w.alloc o) w'):Below w.heap.size w w':=((Below.refl _ w).alloc (Nat.le_refl _) o).trans (h.mono (by simp))
theorem zXk {wr w7:World}{n N:Nat}{x y u v:Value}{e:TypeId}{t:Tr}(hbox:w7.heap[n]?=some (.cells #[x,y] e (0,0)))(hn:wr.heap.size<=n)(hb:Below wr.heap.size wr w7)(hr:t.rda w7 (fun b=>N<=b/\b<w7.heap.size) u v)(hnN:n<N) :
  ∀ W,Below ((w7.setCell ⟨n,0,none⟩ u).setCell ⟨n,1,none⟩ v).heap.size ((w7.setCell ⟨n,0,none⟩ u).setCell ⟨n,1,none⟩ v) W->W.cell? ⟨n,0,none⟩=some u/\W.cell? ⟨n,1,none⟩=some v/\Below wr.heap.size wr W/\t.rda W (fun b=>wr.heap.size<=b/\b<W.heap.size) u v:=by
 intro W hW
 have hsz:((w7.setCell ⟨n,0,none⟩ u).setCell ⟨n,1,none⟩ v).heap.size=w7.heap.size:=by simp[World.setCell]
 rw[hsz]at hW
 have hlt:=lt_of_block hbox
 have hg:W.heap[n]?=some (.cells #[u,v] e (0,0)):=(hW.block n hlt).trans (by simpa using Qe (i:=1) (Qe (i:=0) hbox u) v)
 have hs:=hW.size
 rw[hsz]at hs
 refine⟨Qa (i:=0) hg,Qa (i:=1) hg,((hb.setCell hn _).setCell hn _).trans (hW.mono hb.size),Qs (fun b hb'=>?_) (fun b hb'=>⟨by omega,by omega⟩) _ _ _ hr⟩
 rw[hW.block b hb'.2]
 exact (Below.heap_setCell _ _ _ _ (by simp;omega)).trans (Below.heap_setCell _ _ _ _ (by simp;omega))
theorem zXl {wr w7:World}{N:Nat}{u v:Value}{e:TypeId}{t:Tr}(hb:Below wr.heap.size wr w7)(hr:t.rda w7 (fun b=>N<=b/\b<w7.heap.size) u v)(hN:wr.heap.size<=N) :
  ∀ W,Below (w7.alloc (.cells #[u,v] e)).heap.size (w7.alloc (.cells #[u,v] e)) W->W.cell? ⟨w7.heap.size,0,none⟩=some u/\W.cell? ⟨w7.heap.size,1,none⟩=some v/\Below wr.heap.size wr W/\t.rda W (fun b=>wr.heap.size<=b/\b<W.heap.size) u v:=by
 intro W hW
 have hg:W.heap[w7.heap.size]?=some (.cells #[u,v] e (0,0)):=(hW.block _ (by simp)).trans (Qd rfl)
 have hs:=hW.size
 rw[World.size_alloc]at hs
 refine⟨Qa (i:=0) hg,Qa (i:=1) hg,(hb.alloc hb.size _).trans (hW.mono (by have:=hb.size;simp;omega)),Qs (fun b hb'=>?_) (fun b hb'=>⟨by omega,by omega⟩) _ _ _ hr⟩
 rw[hW.block b (by rw[World.size_alloc];omega)]
 exact Qg hb'.2
theorem qJ2 (ca cb:List Sp)(hN1:ca.length<=900000)(hN2:cb.length<=900000):∀ (n:Nat) (a b:Tr) (va ka vb kb vca vcb:Value) (w:World),a.rd w w.heap.size va ka->b.rd w w.heap.size vb kb->SlP w w.heap.size 3 SpE vca ca->SlP w w.heap.size 3 SpE vcb cb->a.Ord->b.Ord->a.dep<=n->b.dep<=n->a.sz<=100000->b.sz<=100000 ->
  Calls Tryz.prog 111 #[.agg #[va,ka],.agg #[vb,kb],vca,vcb] w (RetT w (joinT n ca cb a b)):=by
 intro n
 induction n with
 |zero=>intro a b _ _ _ _ _ _ w _ _ _ _ _ _ h _ _ _;have:=Kc a;omega
 |succ n ih=>
 intro a b va ka vb kb vca vcb w ha hb hca hcb hoa hob hda hdb hza hzb
 have HA:=hid ha
 have HB:=hid hb
 have HCA:Hid (∀ w',Below w.heap.size w w'->SlP w' w'.heap.size 3 SpE vca ca):=fun w' hb=>hca.imp hb hb.size fun _ _ _ h=>h
 have HCB:Hid (∀ w',Below w.heap.size w w'->SlP w' w'.heap.size 3 SpE vcb cb):=fun w' hb=>hcb.imp hb hb.size fun _ _ _ h=>h
 have hea:=es_sz a
 have heb:=es_sz b
 have hel:=Yt ca cb _ a.es b.es (Nat.le_refl _)
 obtain⟨A1,n1,A2,n2,rfl,rfl⟩:=Qj ha
 obtain⟨A3,n3,A4,n4,rfl,rfl⟩:=Qj hb
 obtain⟨A5,n5,rfl,_⟩:=hca
 obtain⟨A6,n6,rfl,_⟩:=hcb
 have hb0:Below w.heap.size w (((w.alloc (.cells #[.slice A1 a.es.length n1,.slice A2 a.ks.length n2] 25)).alloc (.cells #[.slice A3 b.es.length n3,.slice A4 b.ks.length n4] 25)).alloc (.cells #[.slice none 0 0,.slice none 0 0] 25)):=(((Below.refl _ w).alloc (Nat.le_refl _) _).alloc (by simp) _).alloc (by simp;omega) _
 have HW:Hid (∀ w',Below (w.heap.size+3) (((w.alloc (.cells #[.slice A1 a.es.length n1,.slice A2 a.ks.length n2] 25)).alloc (.cells #[.slice A3 b.es.length n3,.slice A4 b.ks.length n4] 25)).alloc (.cells #[.slice none 0 0,.slice none 0 0] 25)) w'->Below w.heap.size w w'/\w.heap.size+3<=w'.heap.size/\w'.heap[w.heap.size]?=some (.cells #[.slice A1 a.es.length n1,.slice A2 a.ks.length n2] 25 (0,0))/\w'.heap[w.heap.size+1]?=some (.cells #[.slice A3 b.es.length n3,.slice A4 b.ks.length n4] 25 (0,0))/\w'.heap[w.heap.size+2]?=some (.cells #[.slice none 0 0,.slice none 0 0] 25 (0,0))):=fun w' hb=>
  ⟨hb0.trans (hb.mono (by omega)),by have:=hb.size;simpa using this,(hb.block _ (by omega)).trans ((Qg (by simp<;>omega)).trans ((Qg (by simp)).trans (Qd rfl))),(hb.block _ (by omega)).trans ((Qg (by simp)).trans (Qd (by simp))),(hb.block _ (by omega)).trans (Qd (by simp))⟩
 have HOA:=hid hoa
 have HOB:=hid hob
 clear ha hb hoa hob
 go_enter Tryz.func111,Tryz.ntmps111
 go_wp2_with fail
 refine (qQh a.es b.es ca cb _ _ _ _ _ ((zZv HA.out).imp hb0 hb0.size fun _ _ _ h=>h) ((zZv HB.out).imp hb0 hb0.size fun _ _ _ h=>h) (HCA.out _ hb0) (HCB.out _ hb0) (by omega) hN1 hN2).mono ?_
 rintro e w1 ⟨v1,rfl,ho1,hb1⟩
 obtain⟨Ae,ce,rfl⟩:=OwnP.shape ho1
 have HO1:=hid ho1
 have hJ:joinT (n+1) ca cb a b=.mk (entL ca cb a.es b.es) ((joinK a b).flatMap (joinF fun k=>joinT n ca cb (kidT a k) (kidT b k))):=rfl
 have HJ:=hid hJ
 generalize entL ca cb a.es b.es=E at *
 have hb1':=hid (hb1.mono (show w.heap.size+3<=_ by simp))
 obtain⟨hB1,hs1,g0,g1,g2⟩:=HW.out _ hb1'.out
 have a1:w1.cell? ⟨w.heap.size,1,none⟩=some (.slice A2 a.ks.length n2):=Qa (i:=1) g0
 have b1:w1.cell? ⟨w.heap.size+1,1,none⟩=some (.slice A4 b.ks.length n4):=Qa (i:=1) g1
 have hlt0:w.heap.size<w1.heap.size:=by omega
 have hlt1:w.heap.size+1<w1.heap.size:=by omega
 have hne0:w.heap.size≠w1.heap.size:=by omega
 have hne1:w.heap.size+1≠w1.heap.size:=by omega
 clear ho1 hJ g0 g1 g2 hb1
 have hb2:Below w.heap.size w ((w1.alloc (.cells #[.slice Ae E.length ce,.slice none 0 0] 25)).alloc (.cells #[.slice A2 a.ks.length n2,.slice A4 b.ks.length n4] 23)):=(hB1.alloc (by omega) _).alloc (by simp;omega) _
 go_wp2_with fail
 refine (qZt w w.heap.size a.ks b.ks _ _ (w1.heap.size+1) _ (by simp) (by simp) (by simp) ((Xy HA.out).imp hb2 hb2.size fun _ _ _ h=>h) ((Xy HB.out).imp hb2 hb2.size fun _ _ _ h=>h) (by omega) (by omega)).mono ?_
 rintro e w2 ⟨v2,rfl,ho2,hb3⟩
 have hs2:=hb3.size
 simp only[World.size_alloc]at hs2
 have hb12:Below (w1.heap.size+1) (w1.alloc (.cells #[.slice Ae E.length ce,.slice none 0 0] 25)) w2:=((Below.refl _ _).alloc (by simp) _).trans (hb3.mono (by simp))
 obtain⟨Ac,cc,rfl⟩:=OwnP.shape ho2
 have HSL:=hid (ho2.sl (by unfold Big;simp;omega))
 have HB12:=hid hb12
 clear ho2 hb3 hb12 a1 b1 hb2
 obtain⟨KS,hKS⟩:∃ KS,KS=a.ks++b.ks:=⟨_,rfl⟩
 have hKl:KS.length<=200000:=by rw[hKS,List.length_append];omega
 rw[←hKS]at HSL ⊢
 have HKS:=hid hKS
 clear hKS
 go_wp2_with fail
 go_loopw [10,31] (fun v i wr=>∃ k:Nat,k<=KS.length/\i=.int .i64 k/\OwnP wr w2.heap.size 9 1 StE v ((KS.take k).map (·.1))/\Below w2.heap.size w2 wr) (fun _ i _=>KS.length-(intOf i).toNat)
 case atStart=>exact⟨0,Nat.zero_le _,rfl,OwnP.nil,Below.refl _ _⟩
 case round=>
  obtain⟨k,hk,rfl,hown,hb⟩:=hrel
  have hsz:=hb.size
  by_cases hlt:k<KS.length
  ·obtain⟨⟨key,t⟩,hx⟩:∃ x,KS[k]?=some x:=⟨_,List.getElem?_eq_getElem hlt⟩
   obtain⟨A,m,hv,c1,c2,c3⟩:=HSL.out
   cases hv
   obtain⟨b,off,rfl,hbB,hc⟩:=c3 (by rintro rfl;simp at hlt)
   obtain⟨cs,⟨ve',vk',rfl,hkb,hrd⟩,_,hu⟩:=hc k _ hx
   obtain⟨A5,n5,A6,n6,rfl,rfl⟩:=Qj hrd
   have e0:wr.cell? ⟨b,off+k*3,none⟩=some (.string key):=(hb.cell hbB).trans (hu 0 _ rfl)
   have e1:wr.cell? ⟨b,off+k*3+1,none⟩=some (.slice A5 t.es.length n5):=(hb.cell hbB).trans (hu 1 _ rfl)
   have e2:wr.cell? ⟨b,off+k*3+2,none⟩=some (.slice A6 t.ks.length n6):=(hb.cell hbB).trans (hu 2 _ rfl)
   have HX:Hid ((KS.take (k+1)).map (·.1)=(KS.take k).map (·.1)++[key]):=by unfold Hid;rw[List.take_add_one,hx];simp
   have HL:Hid (((KS.take k).map (·.1)).length + [key].length<=Few):=by unfold Hid Few;simp;omega
   have HKY:Hid (StE key [.string key]):=⟨rfl,hkb⟩
   clear hu hc c3 hx hrd
   go_wp2_with (at_builtin;go_loud ((with_reducible refine Qk rfl (.tmp 35) (.tmp 38) _ rfl eiStr (by decide) (by decide) (fun _ _ h=>StE.one h) rfl ((hown.alloc _).alloc _) rfl (SlP.oneN (x:=key) HKY.out rfl _ rfl) HL.out (by simp only[World.size_alloc];omega) ?_);intro v1 w3 hown1 hb2 _;have hb3:=(((Below.refl w2.heap.size wr).alloc (by omega) _).alloc (by simp only[World.size_alloc];omega) _).trans hb2))
   go_roundw
   case rel=>exact⟨k+1,by omega,by go_num,by rw[HX.out];exact hown1,hb.trans hb3⟩
   case measure=>simp[intOf];omega
  ·obtain rfl:k=KS.length:=by omega
   rw[List.take_of_length_le (Nat.le_refl _)]at hown
   go_wp2_with fail
   refine (Xc _ _ _ _ hown (by simp;omega) hsz).mono ?_
   rintro e w3 ⟨rfl,ho3,hb3⟩
   have hs3:w2.heap.size<=w3.heap.size:=Nat.le_trans hsz hb3.size
   go_wp2_with fail
   refine (Yb _ _ _ _ ho3 (by rw[Jw];simp;omega) hs3).mono ?_
   rintro e w4 ⟨v4,rfl,ho4,hb4⟩
   have hs4:w2.heap.size<=w4.heap.size:=Nat.le_trans hs3 hb4.size
   have hKK:cmpL (srtL (KS.map (·.1)))=joinK a b:=by unfold joinK;rw[HKS.out]
   rw[hKK]at ho4
   have hkl:=qVv a b
   have hB24:Below w2.heap.size w2 w4:=(hb.trans hb3).trans hb4
   have HKM:Hid (∀ x∈joinK a b,1<=n):=fun x hx=>YK hda hdb hx
   clear hKK hown ho3 hb hb3 hb4 hsz hs3 hlt hk
   have hB14:Below (w1.heap.size+1) (w1.alloc (.cells #[.slice Ae E.length ce,.slice none 0 0] 25)) w4:=HB12.out.trans (hB24.mono (by omega))
   have HG4:Hid (w4.heap[w1.heap.size]?=some (.cells #[.slice Ae E.length ce,.slice none 0 0] 25 (0,0))):=(hB14.block _ (by omega)).trans (Qd rfl)
   have HB14:Hid (Below w1.heap.size w1 w4):=((Below.refl _ w1).alloc (Nat.le_refl _) _).trans (hB14.mono (by omega))
   have HSLA:=hid (ho4.sla (by unfold Big;omega))
   obtain⟨A9,c9,hv4⟩:=OwnP.shape ho4
   subst hv4
   clear ho4 hB14 hB24 wr
   have hJK:Hid ((joinK a b).flatMap (joinF fun k=>joinT n ca cb (kidT a k) (kidT b k))=(joinK a b).flatMap (joinF fun k=>joinT n ca cb (kidT a k) (kidT b k))):=rfl
   generalize hKKe:joinK a b=KK at *
   have HKKe:=hid hKKe
   clear hKKe
   generalize hFF:(fun k=>joinT n ca cb (kidT a k) (kidT b k))=F at *
   have HF:Hid (∀ k,F k=joinT n ca cb (kidT a k) (kidT b k)):=fun k=>by rw[←hFF]
   clear hFF hJK
   have hlt4:w1.heap.size<w4.heap.size:=by omega
   go_wp2_with fail
   go_loopw [46] (fun i wr=>∃ k:Nat,k<=KK.length/\i=.int .i64 k/\∃ Ak ck,wr.heap[w1.heap.size]?=some (.cells #[.slice Ae E.length ce,.slice Ak ((KK.take k).flatMap (joinF F)).length ck] 25 (0,0)) /\
     OwnD wr w4.heap.size 96 3 KdA (fun b=>w4.heap.size<=b) (.slice Ak ((KK.take k).flatMap (joinF F)).length ck) ((KK.take k).flatMap (joinF F))/\w4.heap.size<=wr.heap.size/\Below w1.heap.size w1 wr/\∀ b,w1.heap.size<b->b<w4.heap.size->wr.heap[b]?=w4.heap[b]?) (fun i _=>KK.length-(intOf i).toNat)
   case atStart=>exact⟨0,Nat.zero_le _,rfl,none,0,HG4.out,OwnP.nil,Nat.le_refl _,HB14.out,fun _ _ _=>rfl⟩
   case round=>
    obtain⟨k,hk,rfl,Ak,ck,hg,hown,hsz,hb,hkp⟩:=hrel
    have hB0:Below w.heap.size w wr:=hB1.trans (hb.mono (by omega))
    have hszk:=hown.lt
    by_cases hlt:k<KK.length
    ·obtain⟨key,hx⟩:∃ x,KK[k]?=some x:=⟨_,List.getElem?_eq_getElem hlt⟩
     obtain⟨A,m,hv,c1,c2,c3⟩:=HSLA.out
     cases hv
     obtain⟨b',off,rfl,hbB,hc⟩:=c3 (by rintro rfl;simp at hlt)
     obtain⟨cs,⟨rfl,hkb⟩,_,hu⟩:=hc k _ hx
     have e0:wr.cell? ⟨b',off+k,none⟩=some (.string key):=(by unfold World.cell?;rw[hkp b' (by have:=hbB.1;omega) hbB.2.1]:wr.cell? ⟨b',off+k,none⟩=w4.cell? ⟨b',off+k,none⟩).trans (by simpa using hu 0 _ rfl)
     have hn1:=HKM.out key (List.mem_of_getElem? hx)
     have HX:=hid (qJ1 hx F)
     have HJL:=Jd F (KK.take k)
     rw[List.length_take]at HJL
     generalize (KK.take k).flatMap (joinF F)=js at *
     have HL:Hid (js.length + [(key,F key)].length<=Few):=by unfold Hid Few;simp;omega
     have HKB:=hid hkb
     have HC8:Hid (∀ W,Below wr.heap.size wr W->(W.cell? ⟨w.heap.size,0,none⟩=some (.slice A1 a.es.length n1)/\W.cell? ⟨w.heap.size,1,none⟩=some (.slice A2 a.ks.length n2)/\W.cell? ⟨w.heap.size+1,0,none⟩=some (.slice A3 b.es.length n3)/\W.cell? ⟨w.heap.size+1,1,none⟩=some (.slice A4 b.ks.length n4))/\Below w.heap.size w W):=fun W hW=>by
      obtain⟨q0,_,q1,q2,_⟩:=HW.out W (hb1'.out.trans ((hb.mono (by omega)).trans (hW.mono (by omega))))
      exact⟨⟨Qa (i:=0) q1,Qa (i:=1) q1,Qa (i:=0) q2,Qa (i:=1) q2⟩,q0⟩
     have HRA:Hid (∀ W,Below wr.heap.size wr W->a.rd W W.heap.size (.slice A1 a.es.length n1) (.slice A2 a.ks.length n2)):=fun W hW=>Qi (HC8.out W hW).2 (HC8.out W hW).2.size _ _ _ HA.out
     have HRB:Hid (∀ W,Below wr.heap.size wr W->b.rd W W.heap.size (.slice A3 b.es.length n3) (.slice A4 b.ks.length n4)):=fun W hW=>Qi (HC8.out W hW).2 (HC8.out W hW).2.size _ _ _ HB.out
     obtain⟨⟨q0,q1,q2,q3⟩,_⟩:=HC8.out wr (Below.refl _ _)
     have HIH:=hid (ih (kidT a key) (kidT b key))
     have HDA:=hid (YX HOA.out hda hn1 key)
     have HDB:=hid (YX HOB.out hdb hn1 key)
     have HZA:=hid (Nat.le_trans (YE a key) hza)
     have HZB:=hid (Nat.le_trans (YE b key) hzb)
     have hFk:=HF.out key
     have HFK:=hid hFk
     clear hu hc c3 hx hkb hn1 hFk ih
     go_upto_region 12 with (fail)
     go_region_held3 (fun w'=>w'.cell? ⟨w.heap.size,0,none⟩=some (.slice A1 a.es.length n1)/\w'.cell? ⟨w.heap.size,1,none⟩=some (.slice A2 a.ks.length n2)/\w'.cell? ⟨w.heap.size+1,0,none⟩=some (.slice A3 b.es.length n3)/\w'.cell? ⟨w.heap.size+1,1,none⟩=some (.slice A4 b.ks.length n4))
      (first|go_keep|exact (HC8.out _ hbk3.out).1|exact (HC8.out _ (hbk3.out.alloc hbk3.out.size _)).1|exact (HC8.out _ hbk2.out).1|exact (HC8.out _ (hbk2.out.alloc hbk2.out.size _)).1|exact (HC8.out _ hbk1.out).1|exact (HC8.out _ (hbk1.out.alloc hbk1.out.size _)).1|exact (HC8.out _ ((hbk3.out.setCell hge.out _).setCell hge.out _)).1)
      (first
          |(have hq:=hbk2;go_at_call 111;go_loud ((refine (HIH.out _ _ _ _ _ _ _ (by first|exact HQA2.out|exact Qi (XD (Below.refl _ _)) (by simp) _ _ _ HQA2.out) (by first|exact HQB.out|exact Qi (XD (Below.refl _ _)) (by simp) _ _ _ HQB.out) (HCA.out _ (HC8.out _ (by first|exact hbk2.out|exact hbk2.out.alloc hbk2.out.size _)).2) (HCB.out _ (HC8.out _ (by first|exact hbk2.out|exact hbk2.out.alloc hbk2.out.size _)).2) (ZB HOA.out key) (ZB HOB.out key) HDA.out HDB.out HZA.out HZB.out).mono ?_);rw[←HFK.out];rintro e w7 ⟨ve7,vk7,rfl,hrd7,hb⟩;obtain⟨Av,nv,Aw,nw,rfl,rfl⟩:=Ql hrd7;have HR7:=hid hrd7;have hb':Below w6.heap.size w6 w7:=(by first|exact hb|exact XD hb);have hbk3:Hid (Below wr.heap.size wr w7):=hbk2.out.trans (hb'.mono (by have:=hbk2.out.size;simpa using this));(try (have hnN:=hid (lt_of_block hbox.out);have hbox:=hid ((hb.block _ hnN.out).trans hbox.out)));(try (have hbox:Hid (w7.heap[w6.heap.size]?=some (.cells #[.slice none 0 0,.slice none 0 0] 25 (0,0))):=(hb.block _ (by simp;done)).trans (Qd rfl);have hnN:Hid (w6.heap.size<(w6.alloc (.cells #[.slice none 0 0,.slice none 0 0] 25)).heap.size):=(by unfold Hid;simp);have hge:=hid hs6));(try (have z0:=Qb (i:=0) hbox.out;have z1:=Qb (i:=1) hbox.out;have y0:=Qa (i:=0) hbox.out;have y1:=Qa (i:=1) hbox.out));clear hrd7 hb hb'))
          |(have hq:=hbk1;go_at_call 156;go_loud ((refine (qYb b key _ _ _ (HRB.out _ (by first|exact hbk1.out|exact hbk1.out.alloc hbk1.out.size _)) HOB.out).mono ?_);rintro e w6 ⟨ve6,vk6,rfl,hrd6,hb⟩;have hb':Below w5.heap.size w5 w6:=(by first|exact hb|exact XD hb);have HQB:=hid (Qi hb hb.size _ _ _ hrd6);have HQA2:=hid (Qi hb' hb'.size _ _ _ HQA.out);have hbk2:Hid (Below wr.heap.size wr w6):=hbk1.out.trans (hb'.mono (by have:=hbk1.out.size;simpa using this));have hs6:=hbk2.out.size;(try (have hbox:=hid ((hb.block _ (lt_of_block hbox.out)).trans hbox.out)));(try (have hbox:Hid (w6.heap[w5.heap.size]?=some (.cells #[.slice none 0 0,.slice none 0 0] 25 (0,0))):=(hb.block _ (by simp;done)).trans (Qd rfl);have hge:=hid hs5));clear hrd6 hb hb'))
          |(go_at_call 156;go_loud ((refine (qYb a key _ _ _ (HRA.out _ (by go_grown)) HOA.out).mono ?_);rintro e w5 ⟨ve5,vk5,rfl,hrd5,hb⟩;have HQA:=hid (Qi hb hb.size _ _ _ hrd5);have hbk1:Hid (Below wr.heap.size wr w5):=(Below.trans (by go_grown) (hb.mono (by simp)));have hs5:=hbk1.out.size;(try (have hbox:Hid (w5.heap[wr.heap.size]?=some (.cells #[.slice none 0 0,.slice none 0 0] 25 (0,0))):=(hb.block _ (by simp;done)).trans (Qd (by simp));have hge:=hid (Nat.le_refl wr.heap.size)));clear hrd5 hb)))
     all_goals (
      first
       |have hFIN:=hid (zXk hbox.out hge.out hbk3.out HR7.out hnN.out)
       |have hFIN:=hid (zXl (e:=25) hbk3.out HR7.out (by have:=hbk2.out.size;simp;omega))
      have hge4:=hbk3.out.size
      obtain⟨q4,q5,_,_⟩:=hFIN.out _ (Below.refl _ _)
      go_wp2_with fail
      refine (QE _ _ _ _ _ _ _).mono ?_
      rintro e w8 ⟨rfl,hb8⟩
      obtain⟨q6,q7,hb9,hrd9⟩:=hFIN.out _ hb8
      have hs9:=hb9.size
      have hg8:=(hb9.block w1.heap.size (by omega)).trans hg
      have hkp8:∀ b,w1.heap.size<b->b<w4.heap.size->w8.heap[b]?=w4.heap[b]?:=fun b h1 h2=>(hb9.block b (by omega)).trans (hkp b h1 h2)
      have hown8:=hown.grow KdA.mon hb9
      clear q0 q1 q2 q3 q4 q5
      cases he:empB (F key).es.length (F key).ks.length
      ·have HX2:Hid ((KK.take (k+1)).flatMap (joinF F)=js++[(key,F key)]):=by
        unfold Hid;rw[HX.out];unfold joinF;rw[←Jc,he];rfl
       have c9:w8.cell? ⟨w1.heap.size,1,none⟩=some (.slice Ak js.length ck):=Qa (i:=1) hg8
       have hlt8:w1.heap.size<w8.heap.size:=by omega
       clear he
       go_wp2_with (at_builtin;go_loud ((with_reducible refine Za (v:=.slice Ak js.length ck) rfl (.tmp 63) (.tmp 67) _ rfl KdA.mon eiKid (by decide) (by decide) rfl (hown8.grow KdA.mon ((Below.refl _ w8).alloc (Nat.le_refl _) (.cells #[.string key,.slice Av (F key).es.length nv,.slice Aw (F key).ks.length nw] 96))) rfl (qK0 hrd9 HKB.out (fun b hb=>⟨hb.2,by have:=hb.1;omega,by rw[World.size_alloc];have:=hb.2;omega,fun e=>by have:=hszk b e;have:=hb.1;omega⟩) _ (by rw[World.size_alloc];omega)) HL.out (by rw[World.size_alloc];omega) ?_);intro v1 w9 hown9 hb10 _ _;have hsh9:∃ A c,v1=.slice A (js++[(key,F key)]).length c:=OwnP.shape hown9;obtain⟨A1',c1',hv1⟩:=hsh9;subst hv1;have hg9:=hid ((hb10.block _ hlt4).trans ((Qg hlt8).trans hg8));have hc9:w9.cell? ⟨w1.heap.size,1,none⟩=some (.slice Ak js.length ck):=Qa (i:=1) hg9.out;have hf9:=Qb (i:=1) hg9.out))
       have hb11:=((hb9.mono (show w4.heap.size<=_ from hsz)).alloc (show w4.heap.size<=w8.heap.size by omega) _).trans hb10
       have hs11:=hb11.size
       go_roundw
       case rel=>
        refine⟨k+1,by omega,by go_num,A1',c1',?_,?_,?_,?_,?_⟩
        ·rw[HX2.out];simpa using Qe (i:=1) hg9.out (.slice A1' (js.length+1) c1')
        ·rw[HX2.out];exact OwnD.setOther hown9 KdA.mon hlt4 (by simp;omega) _
        ·simp[World.setCell];omega
        ·exact (hb.trans (hb11.mono (by omega))).setCell (by simp) _
        ·intro b h1 h2
         exact (Below.heap_setCell _ _ _ _ (by simp;omega)).trans ((hb11.block b h2).trans (hkp b h1 h2))
       case measure=>simp[intOf];omega
      ·have HX2:Hid ((KK.take (k+1)).flatMap (joinF F)=js):=by
        unfold Hid;rw[HX.out];unfold joinF;rw[←Jc,he];simp
       clear he
       go_wp2_with fail
       go_roundw
       case rel=>exact⟨k+1,by omega,by go_num,Ak,ck,by rw[HX2.out];exact hg8,by rw[HX2.out];exact hown8,by omega,hb.trans (hb9.mono (by omega)),hkp8⟩
       case measure=>simp[intOf];omega)
    ·obtain rfl:k=KK.length:=by omega
     rw[List.take_of_length_le (Nat.le_refl _)]at hg hown hszk
     have hJe:joinT (n+1) ca cb a b=.mk E (KK.flatMap (joinF F)):=by
      rw[HJ.out,←HKKe.out]
     have hjl:=Jd F KK
     generalize KK.flatMap (joinF F)=JS at *
     have c0:wr.cell? ⟨w1.heap.size,0,none⟩=some (.slice Ae E.length ce):=Qa (i:=0) hg
     have c1:wr.cell? ⟨w1.heap.size,1,none⟩=some (.slice Ak JS.length ck):=Qa (i:=1) hg
     have hg2:=(HW.out wr (hb1'.out.trans (hb.mono (by omega)))).2.2.2.2
     have d0:wr.cell? ⟨w.heap.size+2,0,none⟩=some (.slice none 0 0):=Qa (i:=0) hg2
     have d1:wr.cell? ⟨w.heap.size+2,1,none⟩=some (.slice none 0 0):=Qa (i:=1) hg2
     have z0:=Qb (i:=0) hg2
     have z1:=Qb (i:=1) hg2
     go_wp2_with fail
     have hW0:=Qe (i:=1) (Qe (i:=0) hg2 (.slice Ae E.length ce)) (.slice Ak JS.length ck)
     have hKW:∀ b,w.heap.size+3<=b->((wr.setCell ⟨w.heap.size+2,0,none⟩ (.slice Ae E.length ce)).setCell ⟨w.heap.size+2,1,none⟩ (.slice Ak JS.length ck)).heap[b]?=wr.heap[b]?:=fun b hb=>(Below.heap_setCell _ _ _ _ (by simp;omega)).trans (Below.heap_setCell _ _ _ _ (by simp;omega))
     have hSW:((wr.setCell ⟨w.heap.size+2,0,none⟩ (.slice Ae E.length ce)).setCell ⟨w.heap.size+2,1,none⟩ (.slice Ak JS.length ck)).heap.size=wr.heap.size:=by simp[World.setCell]
     have hBW:Below w.heap.size w ((wr.setCell ⟨w.heap.size+2,0,none⟩ (.slice Ae E.length ce)).setCell ⟨w.heap.size+2,1,none⟩ (.slice Ak JS.length ck)):=(hB0.setCell (by simp) _).setCell (by simp) _
     clear c0 c1 d0 d1 z0 z1
     generalize ((wr.setCell ⟨w.heap.size+2,0,none⟩ (.slice Ae E.length ce)).setCell ⟨w.heap.size+2,1,none⟩ (.slice Ak JS.length ck))=W at *
     have r0:W.cell? ⟨w.heap.size+2,0,none⟩=some (.slice Ae E.length ce):=(Qa (i:=0) hW0).trans (by simp)
     have r1:W.cell? ⟨w.heap.size+2,1,none⟩=some (.slice Ak JS.length ck):=(Qa (i:=1) hW0).trans (by simp)
     refine bodyPost_ret (v:=.agg #[.slice Ae E.length ce,.slice Ak JS.length ck]) (by simp[results,Tryz.results111,go_sem,r0,r1]) rfl ⟨_,_,rfl,?_,hBW⟩
     rw[hJe,Zh]
     refine⟨(HO1.out.sla (by unfold Big;omega)).up (fun b hb'=>(hKW b (by have:=hb'.1;simp only[World.size_alloc]at this;omega)).trans (hb.block b hb'.2.1)) (fun b hb'=>⟨by have:=hb'.1;simp only[World.size_alloc]at this;omega,by have:=hb'.2.1;omega⟩) (fun _ _ _ h=>h),(OwnP.sla hown (by unfold Big;omega)).up (fun b hb'=>hKW b (by have:=hb'.1;omega)) (fun b hb'=>⟨by have:=hb'.1;omega,by have:=hb'.2.1;omega⟩) ?_⟩
     intro x _ cs hx
     exact KdA.mon.up (fun b hb'=>hKW b (by have:=hb'.1;omega)) (fun b hb'=>⟨by have:=hb'.1;omega,by have:=hb'.2.1;omega⟩) hx
theorem Jf (a:Dt):a.lt a=false:=by unfold Dt.lt;simp
theorem qYg {a b c:Dt}(h:a.lt b=true)(k:b.lt c=true):a.lt c=true:=by
 unfold Dt.lt at *;split at h<;>split at k<;>split<;>simp at *<;>omega
theorem Js {a b:Dt}(h:a.lt b=true):a≠b:=fun e=>by rw[e,Jf]at h;cases h
theorem Z3 {x y:En}(h:x.dot=y.dot):(grtE x y).dot=x.dot:=by unfold grtE;split<;>simp[h]
theorem Zs {c:List Sp}{x e:En}:e∈stayL c x↔e=x/\cHas c x.dot=false:=by
 unfold stayL;cases cHas c x.dot<;>simp
def EntJ (ca cb:List Sp)(a b:En->Prop)(e:En):Prop:=
 (∃ x y,a x/\b y/\x.dot=y.dot/\e=grtE x y)∨(a e/\(∀ y,b y->y.dot≠e.dot)/\cHas cb e.dot=false)∨(b e/\(∀ x,a x->x.dot≠e.dot)/\cHas ca e.dot=false)
theorem Zd (ca cb:List Sp):∀ (n:Nat) (a b:List En),a.length+b.length<=n->(a.Pairwise fun x y=>x.dot.lt y.dot=true)->(b.Pairwise fun x y=>x.dot.lt y.dot=true)->∀ e,e∈entL ca cb a b↔EntJ ca cb (·∈a) (·∈b) e
 |n,[],[],_,_,_,e=>by rw[entL];simp[EntJ]
 |0,x :: a,_,h,_,_,_=>by simp at h
 |0,[],y :: b,h,_,_,_=>by simp at h
 |n+1,x :: a,[],h,ha,hb,e=>by
  have h2:=Zd ca cb n a [] (by simp at h ⊢;omega) ha.of_cons hb e
  rw[entL,List.mem_append,Zs,h2]
  unfold EntJ
  simp only[List.not_mem_nil,List.mem_cons]
  grind
 |n+1,[],y :: b,h,ha,hb,e=>by
  have h2:=Zd ca cb n [] b (by simp at h ⊢;omega) ha hb.of_cons e
  rw[entL,List.mem_append,Zs,h2]
  unfold EntJ
  simp only[List.not_mem_nil,List.mem_cons]
  grind
 |n+1,x :: a,y :: b,h,ha,hb,e=>by
  have hxa:=(List.pairwise_cons.1 ha).1
  have hyb:=(List.pairwise_cons.1 hb).1
  rw[entL]
  cases h1:x.dot.lt y.dot
  ·cases h2:y.dot.lt x.dot
   ·have hxy:=Xo h1 h2
    have h3:=Zd ca cb n a b (by simp at h ⊢;omega) ha.of_cons hb.of_cons e
    have n1:∀ z∈a,z.dot≠x.dot:=fun z hz=>(Js (hxa z hz)).symm
    have n2:∀ z∈b,z.dot≠y.dot:=fun z hz=>(Js (hyb z hz)).symm
    have hg:=Z3 hxy
    rw[if_neg (by simp),if_neg (by simp),List.mem_cons,h3]
    unfold EntJ
    simp only[List.mem_cons]
    grind
   ·have h3:=Zd ca cb n (x :: a) b (by simp at h ⊢;omega) ha hb.of_cons e
    have n1:∀ z∈a,z.dot≠y.dot:=fun z hz=>(Js (qYg h2 (hxa z hz))).symm
    have n2:∀ z∈b,z.dot≠y.dot:=fun z hz=>(Js (hyb z hz)).symm
    have n3:x.dot≠y.dot:=(Js h2).symm
    rw[if_neg (by simp),if_pos rfl,List.mem_append,Zs,h3]
    unfold EntJ
    simp only[List.mem_cons]
    grind
  ·have h3:=Zd ca cb n a (y :: b) (by simp at h ⊢;omega) ha.of_cons hb e
   have n1:∀ z∈a,z.dot≠x.dot:=fun z hz=>(Js (hxa z hz)).symm
   have n2:∀ z∈b,z.dot≠x.dot:=fun z hz=>(Js (qYg h1 (hyb z hz))).symm
   have n3:x.dot≠y.dot:=Js h1
   rw[if_pos rfl,List.mem_append,Zs,h3]
   unfold EntJ
   simp only[List.mem_cons]
   grind
theorem EntJ.dot {ca cb:List Sp}{a b:En->Prop}{e:En}(h:EntJ ca cb a b e):∃ z,(a z∨b z)/\z.dot=e.dot:=by
 rcases h with⟨x,y,hx,hy,hd,rfl⟩|⟨hx,_,_⟩|⟨hx,_,_⟩
 ·exact⟨x,.inl hx,(Z3 hd).symm⟩
 ·exact⟨e,.inl hx,rfl⟩
 ·exact⟨e,.inr hx,rfl⟩
theorem EntJ.congr {ca cb:List Sp}{a b a' b':En->Prop}(ha:∀ e,a e↔a' e)(hb:∀ e,b e↔b' e)(e:En):EntJ ca cb a b e↔EntJ ca cb a' b' e:=by
 have h1:a=a':=funext fun e=>propext (ha e)
 have h2:b=b':=funext fun e=>propext (hb e)
 rw[h1,h2]
theorem YY (ca cb:List Sp):∀ (n:Nat) (a b:List En),a.length+b.length<=n->(a.Pairwise fun x y=>x.dot.lt y.dot=true)->(b.Pairwise fun x y=>x.dot.lt y.dot=true)->(entL ca cb a b).Pairwise fun x y=>x.dot.lt y.dot=true
 |n,[],[],_,_,_=>by rw[entL];exact .nil
 |0,x :: a,_,h,_,_=>by simp at h
 |0,[],y :: b,h,_,_=>by simp at h
 |n+1,x :: a,[],h,ha,hb=>by
  have h2:=YY ca cb n a [] (by simp at h ⊢;omega) ha.of_cons hb
  have hm:=Zd ca cb _ a [] (Nat.le_refl _) ha.of_cons hb
  have hxa:=(List.pairwise_cons.1 ha).1
  rw[entL,List.pairwise_append]
  refine⟨by unfold stayL;split<;>simp,h2,fun u hu v hv=>?_⟩
  obtain⟨z,hz,hd⟩:=((hm v).1 hv).dot
  rw[(Zs.1 hu).1,←hd]
  simp at hz
  exact hxa z hz
 |n+1,[],y :: b,h,ha,hb=>by
  have h2:=YY ca cb n [] b (by simp at h ⊢;omega) ha hb.of_cons
  have hm:=Zd ca cb _ [] b (Nat.le_refl _) ha hb.of_cons
  have hxa:=(List.pairwise_cons.1 hb).1
  rw[entL,List.pairwise_append]
  refine⟨by unfold stayL;split<;>simp,h2,fun u hu v hv=>?_⟩
  obtain⟨z,hz,hd⟩:=((hm v).1 hv).dot
  rw[(Zs.1 hu).1,←hd]
  simp at hz
  exact hxa z hz
 |n+1,x :: a,y :: b,h,ha,hb=>by
  have hxa:=(List.pairwise_cons.1 ha).1
  have hyb:=(List.pairwise_cons.1 hb).1
  rw[entL]
  cases h1:x.dot.lt y.dot
  ·cases h2:y.dot.lt x.dot
   ·have hxy:=Xo h1 h2
    have h3:=YY ca cb n a b (by simp at h ⊢;omega) ha.of_cons hb.of_cons
    have hm:=Zd ca cb _ a b (Nat.le_refl _) ha.of_cons hb.of_cons
    rw[if_neg (by simp),if_neg (by simp),List.pairwise_cons]
    refine⟨fun v hv=>?_,h3⟩
    obtain⟨z,hz,hd⟩:=((hm v).1 hv).dot
    rw[Z3 hxy,←hd]
    rcases hz with hz|hz
    ·exact hxa z hz
    ·rw[hxy];exact hyb z hz
   ·have h3:=YY ca cb n (x :: a) b (by simp at h ⊢;omega) ha hb.of_cons
    have hm:=Zd ca cb _ (x :: a) b (Nat.le_refl _) ha hb.of_cons
    rw[if_neg (by simp),if_pos rfl,List.pairwise_append]
    refine⟨by unfold stayL;split<;>simp,h3,fun u hu v hv=>?_⟩
    obtain⟨z,hz,hd⟩:=((hm v).1 hv).dot
    rw[(Zs.1 hu).1,←hd]
    rcases hz with hz|hz
    ·rcases List.mem_cons.1 hz with rfl|hz
     ·exact h2
     ·exact qYg h2 (hxa z hz)
    ·exact hyb z hz
  ·have h3:=YY ca cb n a (y :: b) (by simp at h ⊢;omega) ha.of_cons hb
   have hm:=Zd ca cb _ a (y :: b) (Nat.le_refl _) ha.of_cons hb
   rw[if_pos rfl,List.pairwise_append]
   refine⟨by unfold stayL;split<;>simp,h3,fun u hu v hv=>?_⟩
   obtain⟨z,hz,hd⟩:=((hm v).1 hv).dot
   rw[(Zs.1 hu).1,←hd]
   rcases hz with hz|hz
   ·exact hxa z hz
   ·rcases List.mem_cons.1 hz with rfl|hz
    ·exact h1
    ·exact qYg h1 (hyb z hz)
theorem XF {f:ByteArray->Tr}{l:List ByteArray}{k:ByteArray}{t:Tr}:(k,t)∈l.flatMap (joinF f)↔k∈l/\(f k).empty=false/\t=f k:=by
 rw[List.mem_flatMap]
 constructor
 ·rintro⟨q,hq,h⟩
  unfold joinF at h
  split at h
  ·cases h
  ·rename_i hn
   simp at h
   obtain⟨rfl,rfl⟩:=h
   exact⟨hq,by simpa using hn,rfl⟩
 ·rintro⟨hk,he,rfl⟩
  exact⟨k,hk,by unfold joinF;rw[he];simp⟩
theorem K7 {f:ByteArray->Tr}:∀ {l:List ByteArray},(l.Pairwise fun a b=>ltS a b=true)->(l.flatMap (joinF f)).Pairwise fun a b=>ltS a.1 b.1=true
 |[],_=>.nil
 |k :: l,h=>by
  obtain⟨h1,h2⟩:=List.pairwise_cons.1 h
  rw[List.flatMap_cons,List.pairwise_append]
  refine⟨by unfold joinF;split<;>simp,K7 h2,fun u hu v hv=>?_⟩
  have hu1:u.1=k:=by unfold joinF at hu;split at hu<;>simp at hu;rw[hu]
  rw[hu1]
  obtain⟨v1,v2⟩:=v
  exact h1 v1 (XF.1 hv).1
theorem K8 (a b:Tr):((joinK a b).Pairwise fun x y=>ltS x y=true)/\∀ k,k∈joinK a b↔∃ t,(k,t)∈a.ks∨(k,t)∈b.ks:=by
 unfold joinK
 rw[sd_eq]
 obtain⟨h1,h2⟩:=VA ((a.ks++b.ks).map (·.1))
 refine⟨h1,fun k=>(h2 k).trans ?_⟩
 rw[List.mem_map]
 constructor
 ·rintro⟨⟨q,t⟩,hm,rfl⟩;exact⟨t,List.mem_append.1 hm⟩
 ·rintro⟨t,hm⟩;exact⟨(k,t),List.mem_append.2 hm,rfl⟩
theorem qVx {t:Tr}{k:ByteArray}{qs:List ByteArray}{e:En}(h:((k :: qs,e):Lf)∈t.lvs []):∃ u,(k,u)∈t.ks:=by
 obtain⟨es,ks⟩:=t
 obtain⟨u,hu,_⟩:=Qv.1 h
 exact⟨u,hu⟩
theorem zQp {t:Tr}{x:Lf}(h:x∈t.lvs []):t.empty=false:=by
 obtain⟨es,ks⟩:=t
 cases he:(Tr.mk es ks).empty
 ·rfl
 ·simp[Tr.empty]at he
  obtain⟨rfl,rfl⟩:=he
  simp[Tr.lvs,Tr.lvsL]at h
theorem Y7 {t:Tr}{e:En}:(([],e):Lf)∈t.lvs []↔e∈t.es:=by obtain⟨es,ks⟩:=t;exact Zv
theorem Jg (ca cb:List Sp):∀ (n:Nat) (a b:Tr),a.Ord->b.Ord->a.dep<=n->b.dep<=n->(joinT n ca cb a b).Ord/\∀ p e,((p,e):Lf)∈(joinT n ca cb a b).lvs []↔EntJ ca cb (fun x=>((p,x):Lf)∈a.lvs []) (fun y=>((p,y):Lf)∈b.lvs []) e:=by
 intro n
 induction n with
 |zero=>intro a b _ _ h _;have:=Kc a;omega
 |succ n ih=>
 intro a b ha hb hda hdb
 have hih:∀ k∈joinK a b,_:=fun k hk=>ih (kidT a k) (kidT b k) (ZB ha k) (ZB hb k) (YX ha hda (YK hda hdb hk) k) (YX hb hdb (YK hda hdb hk) k)
 obtain⟨hk1,hk2⟩:=K8 a b
 have hsa:a.es.Pairwise fun x y=>x.dot.lt y.dot=true:=by obtain⟨es,ks⟩:=a;exact (QQ.1 ha).1
 have hsb:b.es.Pairwise fun x y=>x.dot.lt y.dot=true:=by obtain⟨es,ks⟩:=b;exact (QQ.1 hb).1
 rw[joinT]
 refine⟨Ord.mk' (YY ca cb _ _ _ (Nat.le_refl _) hsa hsb) (K7 hk1) fun k t hm=>?_,?_⟩
 ·obtain⟨hk,he,rfl⟩:=XF.1 hm
  refine⟨?_,he,(hih k hk).1⟩
  obtain⟨u,h|h⟩:=(hk2 k).1 hk
  ·obtain⟨es,ks⟩:=a;exact ((QQ.1 ha).2.2 k u h).1
  ·obtain⟨es,ks⟩:=b;exact ((QQ.1 hb).2.2 k u h).1
 ·intro p e
  match p with
  |[]=>
   rw[Zv,Zd ca cb _ _ _ (Nat.le_refl _) hsa hsb]
   exact EntJ.congr (fun x=>Y7.symm) (fun x=>Y7.symm) e
  |k :: qs=>
   rw[Qv]
   have hc:EntJ ca cb (fun x=>((k :: qs,x):Lf)∈a.lvs []) (fun y=>((k :: qs,y):Lf)∈b.lvs []) e↔EntJ ca cb (fun x=>((qs,x):Lf)∈(kidT a k).lvs []) (fun y=>((qs,y):Lf)∈(kidT b k).lvs []) e:=EntJ.congr (fun x=>(Xs ha).symm) (fun x=>(Xs hb).symm) e
   constructor
   ·rintro⟨t,hm,hx⟩
    obtain⟨hk,he,rfl⟩:=XF.1 hm
    exact hc.2 (((hih k hk).2 qs e).1 hx)
   ·intro hx
    have hk:k∈joinK a b:=by
     obtain⟨z,hz,_⟩:=hx.dot
     rcases hz with hz|hz
     ·obtain⟨u,hu⟩:=qVx hz;exact (hk2 k).2 ⟨u,.inl hu⟩
     ·obtain⟨u,hu⟩:=qVx hz;exact (hk2 k).2 ⟨u,.inr hu⟩
    have hy:=((hih k hk).2 qs e).2 (hc.1 hx)
    exact⟨_,XF.2 ⟨hk,zQp hy,rfl⟩,hy⟩
def Yv (a b:Lf):Bool:=decide (a.2.dot=b.2.dot)&&decide (a.1=b.1)
def findL (l:List Lf)(x:Lf):Option Lf:=l.find? fun y=>Yv y x
def gtE (y x:En):Bool:=decide (x.v<y.v)||(decide (y.v=x.v)&&ltS x.s y.s)
def outP (q:List Lf)(cb:List Sp)(x:Lf):List Lf:=match findL q x with|some y=>if gtE y.2 x.2 then [y] else [x]|none=>if hasC cb x.2.dot then [] else [x]
def outQ (p:List Lf)(ca:List Sp)(y:Lf):List Lf:=match findL p y with|some _=>[]|none=>if hasC ca y.2.dot then [] else [y]
def r9L (p q:List Lf)(ca cb:List Sp):List Lf:=p.flatMap (outP q cb)++q.flatMap (outQ p ca)
theorem Zo (x y:En):grtE x y=if gtE y x then y else x:=by
 unfold grtE gtE
 rcases Int.lt_trichotomy x.v y.v with h|h|h
 ·have e1:cmpI x.v y.v=-1:=if_pos h
  rw[e1];simp[orI,h]
 ·have e1:cmpI x.v y.v=0:=by unfold cmpI;rw[if_neg (by omega),if_neg (by omega)]
  rw[e1]
  unfold orI cmpS
  cases h1:ltS x.s y.s
  ·cases h2:ltS y.s x.s<;>simp[h]
  ·simp[h]
 ·have e1:cmpI x.v y.v=1:=by unfold cmpI;rw[if_neg (by omega),if_pos h]
  rw[e1]
  have h1:¬x.v<y.v:=by omega
  have h3:¬y.v=x.v:=by omega
  simp[orI,h1,h3]
theorem XG {c:List Sp}(h:Qm c=true)(d:Dt):cHas c d=hasC c d:=by
 unfold cHas hasC sHas
 rw[h,Bool.true_and]
 cases hd:d.right
 ·rfl
 ·have hdc:0<=d.dc/\d.dc<4:=by unfold Dt.right at hd;simp at hd;omega
  obtain⟨i,hi⟩:∃ i:Nat,(i:Int)=d.dc:=⟨d.dc.toNat,by omega⟩
  have:=Qw h (i:=i) (by omega)
  rw[hi]at this
  rw[this];rfl
theorem YZ {l:List Lf}{x y:Lf}(h:findL l x=some y):y∈l/\y.2.dot=x.2.dot/\y.1=x.1:=by
 have h1:=List.mem_of_find?_eq_some h
 have h2:=List.find?_some h
 unfold Yv at h2
 simp at h2
 exact⟨h1,h2⟩
theorem Jh {l:List Lf}{x:Lf}(h:findL l x=none):∀ y∈l,y.1=x.1->y.2.dot≠x.2.dot:=by
 intro y hy h1 h2
 have:=List.find?_eq_none.1 h y hy
 unfold Yv at this
 simp[h1,h2]at this
theorem zXm {a b:Tr}(ha:a.Ord)(hb:b.Ord){ca cb:List Sp}(hca:Qm ca=true)(hcb:Qm cb=true)(p:List ByteArray)(e:En) :
  ((p,e):Lf)∈r9L (a.lvs []) (b.lvs []) ca cb↔EntJ ca cb (fun x=>((p,x):Lf)∈a.lvs []) (fun y=>((p,y):Lf)∈b.lvs []) e:=by
 have h1:=(Xr a ha).one
 have h2:=(Xr b hb).one
 unfold r9L EntJ
 rw[List.mem_append,List.mem_flatMap,List.mem_flatMap,XG hca,XG hcb]
 constructor
 ·rintro (⟨⟨p',x⟩,hx,h⟩|⟨⟨p',y⟩,hy,h⟩)
  ·unfold outP at h
   cases hf:findL (b.lvs []) (p',x) with
   |none=>
    have hn:=Jh hf
    rw[hf]at h
    simp only at h
    split at h
    ·cases h
    ·rename_i hh
     simp at h
     obtain⟨rfl,rfl⟩:=h
     exact .inr (.inl ⟨hx,fun y hy=>hn (p,y) hy rfl,by simpa using hh⟩)
   |some y=>
    obtain⟨q,y⟩:=y
    obtain⟨hy,hd,hp⟩:=YZ hf
    simp only at hd hp
    subst hp
    rw[hf]at h
    simp only at h
    refine .inl ⟨x,y,?_,?_,hd.symm,?_⟩
    ·split at h<;>simp at h<;>obtain⟨rfl,rfl⟩:=h<;>exact hx
    ·split at h<;>simp at h<;>obtain⟨rfl,rfl⟩:=h<;>exact hy
    ·rw[Zo];split at h<;>simp at h<;>simp[*]
  ·unfold outQ at h
   cases hf:findL (a.lvs []) (p',y) with
   |some x=>rw[hf]at h;cases h
   |none=>
    have hn:=Jh hf
    rw[hf]at h
    simp only at h
    split at h
    ·cases h
    ·rename_i hh
     simp at h
     obtain⟨rfl,rfl⟩:=h
     exact .inr (.inr ⟨hy,fun x hx=>hn (p,x) hx rfl,by simpa using hh⟩)
 ·rintro (⟨x,y,hx,hy,hd,rfl⟩|⟨hx,hn,hh⟩|⟨hy,hn,hh⟩)
  ·refine .inl ⟨(p,x),hx,?_⟩
   unfold outP
   cases hf:findL (b.lvs []) (p,x) with
   |none=>exact absurd hd.symm (Jh hf (p,y) hy rfl)
   |some z=>
    obtain⟨hz,hd',hp⟩:=YZ hf
    have:=h2 z hz (p,y) hy hp (hd'.trans hd)
    subst this
    simp only
    rw[Zo]
    cases gtE y x<;>simp
  ·refine .inl ⟨(p,e),hx,?_⟩
   unfold outP
   cases hf:findL (b.lvs []) (p,e) with
   |none=>simp[hh]
   |some z=>
    obtain⟨q,z⟩:=z
    obtain⟨hz,hd',hp⟩:=YZ hf
    simp only at hp hd'
    subst hp
    exact absurd hd' (hn z hz)
  ·refine .inr ⟨(p,e),hy,?_⟩
   unfold outQ
   cases hf:findL (a.lvs []) (p,e) with
   |none=>simp[hh]
   |some z=>
    obtain⟨q,z⟩:=z
    obtain⟨hz,hd',hp⟩:=YZ hf
    simp only at hp hd'
    subst hp
    exact absurd hd' (hn z hz)
theorem qVy {a b:Tr}(ha:a.Ord)(hb:b.Ord){ca cb:List Sp}(hca:Qm ca=true)(hcb:Qm cb=true){n:Nat}(hda:a.dep<=n)(hdb:b.dep<=n) :
  QC (r9L (a.lvs []) (b.lvs []) ca cb)=joinT n ca cb a b:=by
 obtain⟨h1,h2⟩:=Jg ca cb n a b ha hb hda hdb
 have he:∀ x,x∈r9L (a.lvs []) (b.lvs []) ca cb↔x∈(joinT n ca cb a b).lvs []:=fun ⟨p,e⟩=>(zXm ha hb hca hcb p e).trans (h2 p e).symm
 have h3:=Xr _ h1
 exact Vp h1 ⟨fun x hx=>h3.key x ((he x).1 hx),fun x hx y hy=>h3.one x ((he x).1 hx) y ((he y).1 hy)⟩ he
theorem qYh (q:List Lf)(cb:List Sp)(x:Lf):(outP q cb x).length<=1:=by
 unfold outP;split<;>split<;>simp
theorem qYi (q:List Lf)(cb:List Sp)(x:Lf):(outQ q cb x).length<=1:=by
 unfold outQ;split<;>(try split)<;>simp
def cutL:List (Int×Int)->Int->Int->List (Int×Int)
 |[],lo,hi=>if lo<=hi then [(lo,hi)] else []
 |x :: b,lo,hi=>if x.2<lo∨hi<x.1 then cutL b lo hi else if lo<x.1 then (lo,x.1-1) :: cutL b (x.2+1) hi else cutL b (x.2+1) hi
def QV (a b:List (Int×Int)):List (Int×Int):=a.flatMap fun r=>cutL b r.1 r.2
theorem qZu {a b:List (Int×Int)}{k:Nat}{r:Int×Int}(h:a[k]?=some r):QV (a.take (k+1)) b=QV (a.take k) b++cutL b r.1 r.2:=by
 unfold QV;rw[List.take_add_one,h];simp
theorem qVz {b:List (Int×Int)}{k:Nat}{x:Int×Int}(h:b[k]?=some x)(lo hi:Int):cutL (b.drop k) lo hi=(if x.2<lo∨hi<x.1 then cutL (b.drop (k+1)) lo hi else if lo<x.1 then (lo,x.1-1) :: cutL (b.drop (k+1)) (x.2+1) hi else cutL (b.drop (k+1)) (x.2+1) hi):=by
 have hlt:=(List.getElem?_eq_some_iff.1 h).1
 rw[List.drop_eq_getElem_cons hlt,(List.getElem?_eq_some_iff.1 h).2,cutL]
theorem Zt (x:Int×Int)(l:List (Int×Int))(n:Int):hasL (x :: l) n=(inR x n||hasL l n):=rfl
theorem Jx:∀ (l:List (Int×Int)) (q n:Int),runsR (some q) l=true->hasL l n=true->q+1<n
 |x :: l,q,n,h,hn=>by
  rw[Qo]at h
  obtain⟨h1,h2,h3⟩:=h
  unfold runOk at h1
  simp only[okR,decide_eq_true_eq]at h2
  rw[Zt,Bool.or_eq_true]at hn
  rcases hn with hn|hn
  ·simp[inR]at hn;omega
  ·have:=Jx l x.2 n h3 hn;omega
 |[],q,n,_,hn=>by simp[hasL]at hn
theorem qZv {l:List (Int×Int)}{q:Int}(h:runsR (some q) l=true):∀ p:Option Int,(∀ q',p=some q'->q'<=q)->runsR p l=true:=by
 intro p hp
 cases l with
 |nil=>cases p<;>rfl
 |cons x l=>
  rw[Qo]at h ⊢
  refine⟨h.1,?_,h.2.2⟩
  cases p with
  |none=>rfl
  |some q'=>
   have:=hp q' rfl
   have h2:=h.2.1
   simp only[okR,decide_eq_true_eq]at h2 ⊢
   omega
theorem Jy:∀ (b:List (Int×Int)) (p0 p:Option Int) (lo hi:Int) (rest:List (Int×Int)),runsR p0 b=true->okR p lo=true->1<=lo->hi<=1099511627776->(∀ q,p=some q->q<=hi)->runsR (some hi) rest=true->runsR p (cutL b lo hi++rest)=true
 |[],p0,p,lo,hi,rest,_,hp,h1,h2,hq,hr=>by
  rw[cutL]
  split
  ·rename_i hle
   rw[List.singleton_append,Qo]
   exact⟨⟨h1,hle,h2⟩,hp,hr⟩
  ·exact qZv hr p hq
 |x :: b,p0,p,lo,hi,rest,h,hp,h1,h2,hq,hr=>by
  rw[Qo]at h
  obtain⟨hx,_,hb⟩:=h
  unfold runOk at hx
  rw[cutL]
  split
  ·exact Jy b _ p lo hi rest hb hp h1 h2 hq hr
  ·rename_i hc
   split
   ·rename_i hl
    rw[List.cons_append,Qo]
    exact⟨⟨h1,by show lo<=x.1-1;omega,by show x.1-1<=_;omega⟩,hp,Jy b _ _ (x.2+1) hi rest hb (by simp only[okR,decide_eq_true_eq];omega) (by omega) h2 (fun q e=>by cases e;omega) hr⟩
   ·refine Jy b _ p (x.2+1) hi rest hb ?_ (by omega) h2 hq hr
    cases p with
    |none=>rfl
    |some q=>simp only[okR,decide_eq_true_eq]at hp ⊢;omega
theorem K9 (b:List (Int×Int))(hb:runsR none b=true):∀ (a:List (Int×Int)) (p:Option Int),runsR p a=true->runsR p (QV a b)=true
 |[],p,_=>by cases p<;>rfl
 |r :: a,p,h=>by
  rw[Qo]at h
  obtain⟨h1,h2,h3⟩:=h
  unfold runOk at h1
  show runsR p (cutL b r.1 r.2++QV a b)=true
  refine Jy b none p r.1 r.2 _ hb h2 h1.1 h1.2.2 (fun q e=>?_) (K9 b hb a _ h3)
  subst e
  simp only[okR,decide_eq_true_eq]at h2
  omega
theorem qZw:∀ (b:List (Int×Int)) (p:Option Int) (lo hi n:Int),runsR p b=true->hasL (cutL b lo hi) n=(decide (lo<=n)&&decide (n<=hi)&&!hasL b n)
 |[],p,lo,hi,n,_=>by
  rw[cutL]
  split
  ·simp[hasL,inR]
  ·rw[Bool.eq_iff_iff];simp[hasL];omega
 |x :: b,p,lo,hi,n,h=>by
  rw[Qo]at h
  obtain⟨hx,_,hb⟩:=h
  unfold runOk at hx
  have hgt:=Jx b x.2 n hb
  have e1:=qZw b _ lo hi n hb
  have e2:=qZw b _ (x.2+1) hi n hb
  rw[cutL,Zt]
  have hin:inR x n=(decide (x.1<=n)&&decide (n<=x.2)):=rfl
  split
  ·rw[e1,hin]
   cases hbn:hasL b n<;>rw[Bool.eq_iff_iff]<;>simp<;>omega
  ·split
   ·rw[Zt,e2,Bool.eq_iff_iff]
    simp[inR]
    cases hbn:hasL b n<;>simp[hbn]at hgt ⊢<;>omega
   ·rw[e2,hin]
    cases hbn:hasL b n<;>simp[hbn]at hgt<;>rw[Bool.eq_iff_iff]<;>simp<;>omega
theorem qQk (a b:List (Int×Int))(n:Int):hasL (a++b) n=(hasL a n||hasL b n):=by unfold hasL;rw[List.any_append]
theorem qQl (b:List (Int×Int))(hb:runsR none b=true)(n:Int):∀ (a:List (Int×Int)),hasL (QV a b) n=(hasL a n&&!hasL b n)
 |[]=>by simp[QV,hasL]
 |r :: a=>by
  show hasL (cutL b r.1 r.2++QV a b) n=_
  rw[qQk,qZw b none _ _ n hb,qQl b hb n a,Zt,Bool.and_or_distrib_right];rfl
theorem qYj {a b:List (Int×Int)}(ha:runsR none a=true)(hb:runsR none b=true):QV a b=byL a b 2:=by
 have h:=Yi (a:=a) (b:=b) 2 (Zc a none ha) (Zc b none hb)
 refine YF _ _ none none (K9 b hb a none ha) h.1 fun n=>?_
 rw[qQl b hb n a,h.2 n]
 simp[inn]
end Go.Proofs.YtbcoelggdikipaaGreat
