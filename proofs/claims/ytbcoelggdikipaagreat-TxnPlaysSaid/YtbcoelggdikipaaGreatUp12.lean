/- What the laws need. No condition but those that each lemma states. -/
import Derived.Test.YtbcoelggdikipaaGreatUp5
import Derived.Test.YtbcoelggdikipaaGreatUp11
import Derived.Test.YtbcoelggdikipaaGreatUp10
import Derived.Test.YtbcoelggdikipaaGreatUp7
import Derived.Test.YtbcoelggdikipaaGreatUp8
import Derived.Test.YtbcoelggdikipaaGreatUp1
set_option maxRecDepth 100000
set_option maxHeartbeats 8000000
set_option linter.unusedSimpArgs false
namespace Go.Proofs.YtbcoelggdikipaaGreat
open Go.RowKit
theorem qKf (xs:List _)(v:Value)(w:World)(h:SlP w w.heap.size 1 StE v xs)(hN:xs.length<=Few) :
  Calls Tryz.prog 92 #[v] w (RetO w 9 1 (fun _=>StE) xs):=by
 have H:=hid h
 have q:∀ (w:World) (a:Option Addr) (n c n' c':Nat),(binOp .eql 30 (.slice a n c) (.slice none n' c')).run Tryz.prog w=.ok (.bool a.isNone) w:=fun w a n c n' c'=>Lib.run_eql_slice_nil w _ _ a n c n' c' Tryz.underlying30
 obtain⟨A,c,rfl,h1,h2,h3⟩:=h
 cases A with
 |none=>
  have hz:xs=[]:=by
   rcases xs with _|⟨x,xs⟩
   ·rfl
   ·obtain⟨b,off,e,_⟩:=h3 (by simp);cases e
  subst hz
  go_enter Tryz.func92,Tryz.ntmps92
  go_wp2_with fail
  go_ret
  exact⟨_,rfl,OwnP.nil,Below.refl _ _⟩
 |some a=>
  have HN:=hid hN
  clear h1 h2 h3
  go_enter Tryz.func92,Tryz.ntmps92
  go_wp2_with (at_builtin;go_loud (refine Ql rfl (.tmp 5) (.tmp 6) _ rfl eiStr (by decide) (by decide) (fun _ _ h=>h.one) rfl (OwnP.zero (base:=w.heap.size) (Qd rfl) (Nat.le_refl _)) rfl (H.out.imp ((Below.refl _ w).alloc (Nat.le_refl _) _) (Nat.le_refl _) fun _ _ _ h=>h) (by simpa using HN.out) (by simp) ?_);intro v2 w2 hown2 hb2 _)
  go_ret
  exact⟨_,rfl,by simpa using hown2,((Below.refl _ w).alloc (Nat.le_refl _) _).trans hb2⟩
theorem box4o {w:World}{g:Nat}{x y z u:Value}{e:TypeId}(hbx:w.heap[g]?=some (.cells #[x,y,z,u] e (0,0)))(a b c d:Value) :
  ((((w.setCell ⟨g,0,none⟩ a).setCell ⟨g,1,none⟩ b).setCell ⟨g,2,none⟩ c).setCell ⟨g,3,none⟩ d).heap[g]?=some (.cells #[a,b,c,d] e (0,0)) /\
   (∀ k,k≠g->((((w.setCell ⟨g,0,none⟩ a).setCell ⟨g,1,none⟩ b).setCell ⟨g,2,none⟩ c).setCell ⟨g,3,none⟩ d).heap[k]?=w.heap[k]?)/\((((w.setCell ⟨g,0,none⟩ a).setCell ⟨g,1,none⟩ b).setCell ⟨g,2,none⟩ c).setCell ⟨g,3,none⟩ d).heap.size=w.heap.size:=by
 have hW:=Qe (i:=3) (Qe (i:=2) (Qe (i:=1) (Qe (i:=0) hbx a) b) c) d
 exact⟨by rw[hW];simp,fun k hk=>(Below.heap_setCell _ _ _ _ hk).trans ((Below.heap_setCell _ _ _ _ hk).trans ((Below.heap_setCell _ _ _ _ hk).trans (Below.heap_setCell _ _ _ _ hk))),by simp[World.setCell]⟩
def RetOp (w:World)(o:Opr)(e:Ending)(w':World):Prop:=
 ∃ vp,e=.returned (.agg #[vp,.int .i64 o.act,.string o.s,.int .i64 o.n])/\SlA w' (fun b=>w.heap.size<=b/\b<w'.heap.size) 1 StE vp o.path/\Below w.heap.size w w'
theorem Xe (o:Opr)(vp:Value)(w:World)(h:SlP w w.heap.size 1 StE vp o.path)(hN:o.path.length<=900000) :
  Calls Tryz.prog 56 #[.agg #[vp,.int .i64 o.act,.string o.s,.int .i64 o.n]] w (RetOp w o):=by
 obtain⟨A,c,rfl,b1,b2,_⟩:=id h
 obtain⟨path,act,s,n⟩:=o
 simp only at h hN b1 b2 ⊢
 have HC:Hid (∀ w',Below w.heap.size w w'->SlP w' w'.heap.size 1 StE (.slice A path.length c) path):=fun w' hb=>h.imp hb hb.size fun _ _ _ h=>h
 have hb0:Below w.heap.size w ((w.alloc (.cells #[.slice A path.length c,.int .i64 act,.string s,.int .i64 n] 65)).alloc (.cells #[.slice none 0 0,.int .i64 0,.string ByteArray.empty,.int .i64 0] 65)):=((Below.refl _ w).alloc (Nat.le_refl _) _).alloc (by simp) _
 have HB0:=hid hb0
 have HX:Hid (∀ W,Below (w.heap.size+2) ((w.alloc (.cells #[.slice A path.length c,.int .i64 act,.string s,.int .i64 n] 65)).alloc (.cells #[.slice none 0 0,.int .i64 0,.string ByteArray.empty,.int .i64 0] 65)) W->(W.heap[w.heap.size]?=some (.cells #[.slice A path.length c,.int .i64 act,.string s,.int .i64 n] 65 (0,0))/\W.heap[w.heap.size+1]?=some (.cells #[.slice none 0 0,.int .i64 0,.string ByteArray.empty,.int .i64 0] 65 (0,0)))):=fun W hW=>
  ⟨(hW.block _ (by omega)).trans ((Qg (by simp)).trans (Qd rfl)),(hW.block _ (by omega)).trans (Qd (by simp))⟩
 clear h hb0
 go_enter Tryz.func56,Tryz.ntmps56
 go_wp2_with fail
 refine (qKf path _ _ (HC.out _ HB0.out) (by unfold Few;omega)).mono ?_
 rintro e w1 ⟨v1,rfl,hown,hb⟩
 obtain⟨A1,c1,hv⟩:=OwnP.shape hown
 subst hv
 have HO:=hid hown
 have hB:Below (w.heap.size+2) ((w.alloc (.cells #[.slice A path.length c,.int .i64 act,.string s,.int .i64 n] 65)).alloc (.cells #[.slice none 0 0,.int .i64 0,.string ByteArray.empty,.int .i64 0] 65)) w1:=hb.mono (by simp)
 have hs1:=hb.size
 simp only[World.size_alloc]at hs1
 have HB:=hid hB
 obtain⟨g0,g1⟩:=HX.out _ hB
 have HG0:=hid g0
 have HG1:=hid g1
 have e1:=Qa (i:=1) g0
 have e2:=Qa (i:=2) g0
 have e3:=Qa (i:=3) g0
 have f0:=Qb (i:=0) g0
 have k0:=Qb (i:=0) g1
 have k1:=Qb (i:=1) g1
 have k2:=Qb (i:=2) g1
 have k3:=Qb (i:=3) g1
 have l0:=Qa (i:=0) g0
 have m0:w1.cell? ⟨w.heap.size+1,0,none⟩=some (.slice none 0 0):=Qa (i:=0) g1
 have m1:w1.cell? ⟨w.heap.size+1,1,none⟩=some (.int .i64 0):=Qa (i:=1) g1
 have m2:w1.cell? ⟨w.heap.size+1,2,none⟩=some (.string ByteArray.empty):=Qa (i:=2) g1
 have m3:w1.cell? ⟨w.heap.size+1,3,none⟩=some (.int .i64 0):=Qa (i:=3) g1
 simp only[List.getElem?_toArray,List.getElem?_cons_zero,List.getElem?_cons_succ]at e1 e2 e3 l0
 have hne:w.heap.size+1≠w.heap.size:=by omega
 have hne':w.heap.size≠w.heap.size+1:=by omega
 clear hown hb hB g0 g1
 go_wp2_with fail
 have hg1:(w1.setCell ⟨w.heap.size,0,none⟩ (.slice A1 path.length c1)).heap[w.heap.size+1]?=some (.cells #[.slice none 0 0,.int .i64 0,.string ByteArray.empty,.int .i64 0] 65 (0,0)):=(Below.heap_setCell _ _ _ _ hne).trans HG1.out
 obtain⟨hW,hK,hS⟩:=box4o hg1 (.slice A1 path.length c1) (.int .i64 act) (.string s) (.int .i64 n)
 obtain⟨r0,r1,r2,r3⟩:=bx4 hW
 have hBW:Below w.heap.size w (((((w1.setCell ⟨w.heap.size,0,none⟩ (.slice A1 path.length c1)).setCell ⟨w.heap.size+1,0,none⟩ (.slice A1 path.length c1)).setCell ⟨w.heap.size+1,1,none⟩ (.int .i64 act)).setCell ⟨w.heap.size+1,2,none⟩ (.string s)).setCell ⟨w.heap.size+1,3,none⟩ (.int .i64 n)):=(((((HB0.out.trans (HB.out.mono (by omega))).setCell (Nat.le_refl _) _).setCell (by simp) _).setCell (by simp) _).setCell (by simp) _).setCell (by simp) _
 have hS1:(w1.setCell ⟨w.heap.size,0,none⟩ (.slice A1 path.length c1)).heap.size=w1.heap.size:=by simp[World.setCell]
 refine bodyPost_ret (v:=.agg #[.slice A1 path.length c1,.int .i64 act,.string s,.int .i64 n]) (by simp[results,Tryz.results56,go_sem,r0,r1,r2,r3]) rfl ⟨_,rfl,?_,hBW⟩
 exact (HO.out.sla (by unfold Big;omega)).up (fun b hb=>(hK b (by have:=hb.1;simp only[World.size_alloc]at this;omega)).trans (Below.heap_setCell _ _ _ _ (by have:=hb.1;simp only[World.size_alloc]at this;show b≠w.heap.size;omega))) (fun b hb=>⟨by have:=hb.1;simp only[World.size_alloc]at this;omega,by rw[hS,hS1];exact hb.2.1⟩) (fun _ _ _ h=>h)
theorem QU {w w1:World}{N g:Nat}{T:Tr}{C:List Sp}{x y z a b c:Value}{e:TypeId}(hG:w1.heap[g]?=some (.cells #[x,y,z] e (0,0)))(hB:Below w.heap.size w w1)(hg:w.heap.size<=g)(hN:g<N)(hrd:T.rda w1 (fun b=>N<=b/\b<w1.heap.size) a b)(hsl:SlA w1 (fun b=>N<=b/\b<w1.heap.size) 3 SpE c C) :
  (((w1.setCell ⟨g,0,none⟩ a).setCell ⟨g,1,none⟩ b).setCell ⟨g,2,none⟩ c).cell? ⟨g,0,none⟩=some a/\(((w1.setCell ⟨g,0,none⟩ a).setCell ⟨g,1,none⟩ b).setCell ⟨g,2,none⟩ c).cell? ⟨g,1,none⟩=some b/\(((w1.setCell ⟨g,0,none⟩ a).setCell ⟨g,1,none⟩ b).setCell ⟨g,2,none⟩ c).cell? ⟨g,2,none⟩=some c /\
  T.rda (((w1.setCell ⟨g,0,none⟩ a).setCell ⟨g,1,none⟩ b).setCell ⟨g,2,none⟩ c) (fun q=>w.heap.size<=q/\q<(((w1.setCell ⟨g,0,none⟩ a).setCell ⟨g,1,none⟩ b).setCell ⟨g,2,none⟩ c).heap.size) a b /\
  SlA (((w1.setCell ⟨g,0,none⟩ a).setCell ⟨g,1,none⟩ b).setCell ⟨g,2,none⟩ c) (fun q=>w.heap.size<=q/\q<(((w1.setCell ⟨g,0,none⟩ a).setCell ⟨g,1,none⟩ b).setCell ⟨g,2,none⟩ c).heap.size) 3 SpE c C /\
  Below w.heap.size w (((w1.setCell ⟨g,0,none⟩ a).setCell ⟨g,1,none⟩ b).setCell ⟨g,2,none⟩ c):=by
 obtain⟨r0,r1,r2,hK,hS⟩:=box3 hG a b c
 have hBW:=((hB.setCell (p:=⟨g,0,none⟩) hg a).setCell (p:=⟨g,1,none⟩) hg b).setCell (p:=⟨g,2,none⟩) hg c
 exact⟨r0,r1,r2,Qq (fun q hq=>hK q (by omega)) (fun q hq=>⟨by omega,by rw[hS];exact hq.2⟩) _ _ _ hrd,hsl.up (fun q hq=>hK q (by omega)) (fun q hq=>⟨by omega,by rw[hS];exact hq.2⟩) (fun _ _ _ h=>h),hBW⟩
theorem zQv (u:Tr)(o:Opr)(d:Dt)(ve vk vp:Value)(w:World)(h:u.rd w w.heap.size ve vk)(hp:SlP w w.heap.size 1 StE vp o.path)(ho:o.Ok)(hd:d.Ok)(hN:u.sz<=4000) :
  Calls Tryz.prog 99 #[.agg #[ve,vk],.agg #[vp,.int .i64 o.act,.string o.s,.int .i64 o.n],.agg #[.int .i64 d.dc,.int .i64 d.n]] w (RetCE w (leafX u o d).1 (leafX u o d).2.1 (leafX u o d).2.2):=by
 have HC:Hid (∀ w',Below w.heap.size w w'->u.rd w' w'.heap.size ve vk):=fun w' hb=>Qi hb hb.size _ _ _ h
 obtain⟨A3,n3,A4,n4,rfl,rfl⟩:=Qj h
 obtain⟨A5,n5,rfl,_⟩:=hp
 obtain⟨oa,on,os⟩:=ho
 obtain⟨path,act,s,n⟩:=o
 simp only at oa on os ⊢
 have hb0:=((((Below.refl w.heap.size w).alloc (Nat.le_refl _) (.cells #[.slice A3 u.es.length n3,.slice A4 u.ks.length n4] 25)).alloc (by simp) (.cells #[.slice A5 path.length n5,.int .i64 act,.string s,.int .i64 n] 65)).alloc (by simp;omega) (.cells #[.int .i64 d.dc,.int .i64 d.n] 78)).alloc (by simp;omega) (.cells #[.slice none 0 0,.slice none 0 0,.slice none 0 0] 29)
 have HX:Hid (∀ W,Below (w.heap.size+4) ((((w.alloc (.cells #[.slice A3 u.es.length n3,.slice A4 u.ks.length n4] 25)).alloc (.cells #[.slice A5 path.length n5,.int .i64 act,.string s,.int .i64 n] 65)).alloc (.cells #[.int .i64 d.dc,.int .i64 d.n] 78)).alloc (.cells #[.slice none 0 0,.slice none 0 0,.slice none 0 0] 29)) W ->
   (Below w.heap.size w W/\W.cell? ⟨w.heap.size,0,none⟩=some (.slice A3 u.es.length n3)/\W.cell? ⟨w.heap.size,1,none⟩=some (.slice A4 u.ks.length n4)/\W.cell? ⟨w.heap.size+1,0,none⟩=some (.slice A5 path.length n5)/\W.cell? ⟨w.heap.size+1,1,none⟩=some (.int .i64 act)/\W.cell? ⟨w.heap.size+1,2,none⟩=some (.string s)/\W.cell? ⟨w.heap.size+1,3,none⟩=some (.int .i64 n) /\
    W.cell? ⟨w.heap.size+2,0,none⟩=some (.int .i64 d.dc)/\W.cell? ⟨w.heap.size+2,1,none⟩=some (.int .i64 d.n)/\W.heap[w.heap.size+3]?=some (.cells #[.slice none 0 0,.slice none 0 0,.slice none 0 0] 29 (0,0)))):=fun W hW=>by
  have g0:W.heap[w.heap.size]?=some (.cells #[.slice A3 u.es.length n3,.slice A4 u.ks.length n4] 25 (0,0)):=(hW.block _ (by omega)).trans ((Qg (by simp<;>omega)).trans ((Qg (by simp<;>omega)).trans ((Qg (by simp)).trans (Qd rfl))))
  have g1:W.heap[w.heap.size+1]?=some (.cells #[.slice A5 path.length n5,.int .i64 act,.string s,.int .i64 n] 65 (0,0)):=(hW.block _ (by omega)).trans ((Qg (by simp<;>omega)).trans ((Qg (by simp)).trans (Qd (by simp))))
  have g2:W.heap[w.heap.size+2]?=some (.cells #[.int .i64 d.dc,.int .i64 d.n] 78 (0,0)):=(hW.block _ (by omega)).trans ((Qg (by simp)).trans (Qd (by simp)))
  have g3:W.heap[w.heap.size+3]?=some (.cells #[.slice none 0 0,.slice none 0 0,.slice none 0 0] 29 (0,0)):=(hW.block _ (by omega)).trans (Qd (by simp))
  exact⟨hb0.trans (hW.mono (by omega)),Qa (i:=0) g0,Qa (i:=1) g0,Qa (i:=0) g1,Qa (i:=1) g1,Qa (i:=2) g1,Qa (i:=3) g1,Qa (i:=0) g2,Qa (i:=1) g2,g3⟩
 clear h
 by_cases a1:act=1
 ·subst a1
  rw[qWg rfl]
  go_enter Tryz.func99,Tryz.ntmps99
  obtain⟨hB0,c0,c1,p0,p1,p2,p3,d0,d1,g3⟩:=HX.out _ (Below.refl _ _)
  clear g3
  go_wp2_with fail
  refine (qZ2 u d _ _ _ (HC.out _ hb0) (by omega) hd).mono ?_
  rintro e w1 ⟨ve1,vk1,vc1,rfl,hrd1,hsl1,hb1⟩
  obtain⟨Av,nv,Aw,nw,rfl,rfl⟩:=Qk hrd1
  obtain⟨Ac,nc,rfl⟩:=hsl1.shape
  simp only[World.size_alloc]at hrd1 hsl1 hb1
  have hBx:Below (w.heap.size+4) _ w1:=hb1.mono (by omega)
  clear c0 c1 p0 p1 p2 p3 d0 d1
  obtain⟨hB1,c0,c1,p0,p1,p2,p3,d0,d1,hG⟩:=HX.out _ hBx
  have HG:=hid hG
  obtain⟨k0,k1,k2,z0,z1,z2⟩:=bz3 hG
  have HR:=hid hrd1
  have HS:=hid hsl1
  have HB:=hid hB1
  clear hrd1 hsl1 hb1 hBx hG hB1 c0 c1 p0 p1 p2 p3 d0 d1
  go_wp2_with fail
  obtain⟨r0,r1,r2,q1,q2,q3⟩:=QU HG.out HB.out (by omega) (by omega) HR.out HS.out
  exact bodyPost_ret (v:=.tuple #[.agg #[_,_,_],.int .i64 _]) (by simp[results,Tryz.results99,go_sem,r0,r1,r2]<;>rfl) rfl ⟨_,_,_,rfl,q1,q2,q3⟩
 by_cases a2:act=2
 ·subst a2
  rw[qWh rfl]
  go_enter Tryz.func99,Tryz.ntmps99
  obtain⟨hB0,c0,c1,p0,p1,p2,p3,d0,d1,g3⟩:=HX.out _ (Below.refl _ _)
  clear g3
  go_wp2_with fail
  refine (qQa u d _ _ _ (HC.out _ hb0) (by omega) hd).mono ?_
  rintro e w1 ⟨ve1,vk1,vc1,rfl,hrd1,hsl1,hb1⟩
  obtain⟨Av,nv,Aw,nw,rfl,rfl⟩:=Qk hrd1
  obtain⟨Ac,nc,rfl⟩:=hsl1.shape
  simp only[World.size_alloc]at hrd1 hsl1 hb1
  have hBx:Below (w.heap.size+4) _ w1:=hb1.mono (by omega)
  clear c0 c1 p0 p1 p2 p3 d0 d1
  obtain⟨hB1,c0,c1,p0,p1,p2,p3,d0,d1,hG⟩:=HX.out _ hBx
  have HG:=hid hG
  obtain⟨k0,k1,k2,z0,z1,z2⟩:=bz3 hG
  have HR:=hid hrd1
  have HS:=hid hsl1
  have HB:=hid hB1
  clear hrd1 hsl1 hb1 hBx hG hB1 c0 c1 p0 p1 p2 p3 d0 d1
  go_wp2_with fail
  obtain⟨r0,r1,r2,q1,q2,q3⟩:=QU HG.out HB.out (by omega) (by omega) HR.out HS.out
  exact bodyPost_ret (v:=.tuple #[.agg #[_,_,_],.int .i64 _]) (by simp[results,Tryz.results99,go_sem,r0,r1,r2]<;>rfl) rfl ⟨_,_,_,rfl,q1,q2,q3⟩
 by_cases a3:act=3
 ·subst a3
  rw[qWi rfl]
  go_enter Tryz.func99,Tryz.ntmps99
  obtain⟨hB0,c0,c1,p0,p1,p2,p3,d0,d1,g3⟩:=HX.out _ (Below.refl _ _)
  clear g3
  go_wp2_with fail
  refine (zQc u s d _ _ _ (HC.out _ hb0) os (by omega) hd).mono ?_
  rintro e w1 ⟨ve1,vk1,vc1,rfl,hrd1,hsl1,hb1⟩
  obtain⟨Av,nv,Aw,nw,rfl,rfl⟩:=Qk hrd1
  obtain⟨Ac,nc,rfl⟩:=hsl1.shape
  simp only[World.size_alloc]at hrd1 hsl1 hb1
  have hBx:Below (w.heap.size+4) _ w1:=hb1.mono (by omega)
  clear c0 c1 p0 p1 p2 p3 d0 d1
  obtain⟨hB1,c0,c1,p0,p1,p2,p3,d0,d1,hG⟩:=HX.out _ hBx
  have HG:=hid hG
  obtain⟨k0,k1,k2,z0,z1,z2⟩:=bz3 hG
  have HR:=hid hrd1
  have HS:=hid hsl1
  have HB:=hid hB1
  clear hrd1 hsl1 hb1 hBx hG hB1 c0 c1 p0 p1 p2 p3 d0 d1
  go_wp2_with fail
  obtain⟨r0,r1,r2,q1,q2,q3⟩:=QU HG.out HB.out (by omega) (by omega) HR.out HS.out
  exact bodyPost_ret (v:=.tuple #[.agg #[_,_,_],.int .i64 _]) (by simp[results,Tryz.results99,go_sem,r0,r1,r2]<;>rfl) rfl ⟨_,_,_,rfl,q1,q2,q3⟩
 by_cases a4:act=4
 ·subst a4
  rw[qWj rfl]
  go_enter Tryz.func99,Tryz.ntmps99
  obtain⟨hB0,c0,c1,p0,p1,p2,p3,d0,d1,g3⟩:=HX.out _ (Below.refl _ _)
  clear g3
  go_wp2_with fail
  refine (zQb u s d _ _ _ (HC.out _ hb0) os (by omega) hd).mono ?_
  rintro e w1 ⟨ve1,vk1,vc1,rfl,hrd1,hsl1,hb1⟩
  obtain⟨Av,nv,Aw,nw,rfl,rfl⟩:=Qk hrd1
  obtain⟨Ac,nc,rfl⟩:=hsl1.shape
  simp only[World.size_alloc]at hrd1 hsl1 hb1
  have hBx:Below (w.heap.size+4) _ w1:=hb1.mono (by omega)
  clear c0 c1 p0 p1 p2 p3 d0 d1
  obtain⟨hB1,c0,c1,p0,p1,p2,p3,d0,d1,hG⟩:=HX.out _ hBx
  have HG:=hid hG
  obtain⟨k0,k1,k2,z0,z1,z2⟩:=bz3 hG
  have HR:=hid hrd1
  have HS:=hid hsl1
  have HB:=hid hB1
  clear hrd1 hsl1 hb1 hBx hG hB1 c0 c1 p0 p1 p2 p3 d0 d1
  go_wp2_with fail
  obtain⟨r0,r1,r2,q1,q2,q3⟩:=QU HG.out HB.out (by omega) (by omega) HR.out HS.out
  exact bodyPost_ret (v:=.tuple #[.agg #[_,_,_],.int .i64 _]) (by simp[results,Tryz.results99,go_sem,r0,r1,r2]<;>rfl) rfl ⟨_,_,_,rfl,q1,q2,q3⟩
 by_cases a5:act=5
 ·subst a5
  rw[qWk rfl]
  go_enter Tryz.func99,Tryz.ntmps99
  obtain⟨hB0,c0,c1,p0,p1,p2,p3,d0,d1,g3⟩:=HX.out _ (Below.refl _ _)
  clear g3
  go_wp2_with fail
  refine (zQd u n d _ _ _ (HC.out _ hb0) (by omega) on hd).mono ?_
  rintro e w1 ⟨ve1,vk1,vc1,rfl,hrd1,hsl1,hb1⟩
  obtain⟨Av,nv,Aw,nw,rfl,rfl⟩:=Qk hrd1
  obtain⟨Ac,nc,rfl⟩:=hsl1.shape
  simp only[World.size_alloc]at hrd1 hsl1 hb1
  have hBx:Below (w.heap.size+4) _ w1:=hb1.mono (by omega)
  clear c0 c1 p0 p1 p2 p3 d0 d1
  obtain⟨hB1,c0,c1,p0,p1,p2,p3,d0,d1,hG⟩:=HX.out _ hBx
  have HG:=hid hG
  obtain⟨k0,k1,k2,z0,z1,z2⟩:=bz3 hG
  have HR:=hid hrd1
  have HS:=hid hsl1
  have HB:=hid hB1
  clear hrd1 hsl1 hb1 hBx hG hB1 c0 c1 p0 p1 p2 p3 d0 d1
  go_wp2_with fail
  obtain⟨r0,r1,r2,q1,q2,q3⟩:=QU HG.out HB.out (by omega) (by omega) HR.out HS.out
  exact bodyPost_ret (v:=.tuple #[.agg #[_,_,_],.int .i64 _]) (by simp[results,Tryz.results99,go_sem,r0,r1,r2]<;>rfl) rfl ⟨_,_,_,rfl,q1,q2,q3⟩
 by_cases a6:act=6
 ·subst a6
  rw[qWl rfl]
  go_enter Tryz.func99,Tryz.ntmps99
  obtain⟨hB0,c0,c1,p0,p1,p2,p3,d0,d1,g3⟩:=HX.out _ (Below.refl _ _)
  clear g3
  go_wp2_with fail
  refine (qJz u s d _ _ _ (HC.out _ hb0) os (by omega) hd).mono ?_
  rintro e w1 ⟨ve1,vk1,vc1,rfl,hrd1,hsl1,hb1⟩
  obtain⟨Av,nv,Aw,nw,rfl,rfl⟩:=Qk hrd1
  obtain⟨Ac,nc,rfl⟩:=hsl1.shape
  simp only[World.size_alloc]at hrd1 hsl1 hb1
  have hBx:Below (w.heap.size+4) _ w1:=hb1.mono (by omega)
  clear c0 c1 p0 p1 p2 p3 d0 d1
  obtain⟨hB1,c0,c1,p0,p1,p2,p3,d0,d1,hG⟩:=HX.out _ hBx
  have HG:=hid hG
  obtain⟨k0,k1,k2,z0,z1,z2⟩:=bz3 hG
  have HR:=hid hrd1
  have HS:=hid hsl1
  have HB:=hid hB1
  clear hrd1 hsl1 hb1 hBx hG hB1 c0 c1 p0 p1 p2 p3 d0 d1
  go_wp2_with fail
  obtain⟨r0,r1,r2,q1,q2,q3⟩:=QU HG.out HB.out (by omega) (by omega) HR.out HS.out
  exact bodyPost_ret (v:=.tuple #[.agg #[_,_,_],.int .i64 _]) (by simp[results,Tryz.results99,go_sem,r0,r1,r2]<;>rfl) rfl ⟨_,_,_,rfl,q1,q2,q3⟩
 ·have hX:leafX u ⟨path,act,s,n⟩ d=(.mk [] [],disC u d,chkI u d):=by unfold leafX;rw[if_neg a1,if_neg a2,if_neg a3,if_neg a4,if_neg a5,if_neg a6]
  rw[hX]
  have e1:(act==1)=false:=by simpa using a1
  have e2:(act==2)=false:=by simpa using a2
  have e3:(act==3)=false:=by simpa using a3
  have e4:(act==4)=false:=by simpa using a4
  have e5:(act==5)=false:=by simpa using a5
  have e6:(act==6)=false:=by simpa using a6
  go_enter Tryz.func99,Tryz.ntmps99
  obtain⟨hB0,c0,c1,p0,p1,p2,p3,d0,d1,g3⟩:=HX.out _ (Below.refl _ _)
  clear g3
  go_wp2_with fail
  refine (qKa u d _ _ _ (HC.out _ hb0) (by omega) hd).mono ?_
  rintro e w1 ⟨ve1,vk1,vc1,rfl,hrd1,hsl1,hb1⟩
  obtain⟨Av,nv,Aw,nw,rfl,rfl⟩:=Qk hrd1
  obtain⟨Ac,nc,rfl⟩:=hsl1.shape
  simp only[World.size_alloc]at hrd1 hsl1 hb1
  have hBx:Below (w.heap.size+4) _ w1:=hb1.mono (by omega)
  clear c0 c1 p0 p1 p2 p3 d0 d1
  obtain⟨hB1,c0,c1,p0,p1,p2,p3,d0,d1,hG⟩:=HX.out _ hBx
  have HG:=hid hG
  obtain⟨k0,k1,k2,z0,z1,z2⟩:=bz3 hG
  have HR:=hid hrd1
  have HS:=hid hsl1
  have HB:=hid hB1
  clear hrd1 hsl1 hb1 hBx hG hB1 c0 c1 p0 p1 p2 p3 d0 d1
  go_wp2_with fail
  obtain⟨r0,r1,r2,q1,q2,q3⟩:=QU HG.out HB.out (by omega) (by omega) HR.out HS.out
  exact bodyPost_ret (v:=.tuple #[.agg #[_,_,_],.int .i64 _]) (by simp[results,Tryz.results99,go_sem,r0,r1,r2]<;>rfl) rfl ⟨_,_,_,rfl,q1,q2,q3⟩
theorem SlP.takeK {α:Type}{w:World}{B sz:Nat}{E:α->List Value->Prop}{A:Option Addr}{c:Nat}{l:List α}(h:SlP w B sz E (.slice A l.length c) l){k:Nat}(hk:k<=l.length):SlP w B sz E (.slice A k c) (l.take k):=by
 obtain⟨A',c',hv,h1,h2,h3⟩:=h
 cases hv
 have hl:(l.take k).length=k:=by simp;omega
 refine⟨A,c,by rw[hl],by omega,by omega,fun hn=>?_⟩
 obtain⟨b,off,rfl,hB,hc⟩:=h3 (by rintro rfl;simp at hn)
 refine⟨b,off,rfl,hB,fun j x hx=>hc j x ?_⟩
 rw[List.getElem?_take]at hx
 split at hx
 ·exact hx
 ·cases hx
def ofI (a:Int):Int:=if a=1∨a=2 then 1 else if a=3∨a=4 then 2 else if a=5 then 3 else if a=6 then 4 else if a=7 then 0 else -1
theorem zYp (a:Int)(w:World):Calls Tryz.prog 136 #[.int .i64 a] w fun e w'=>e=.returned (.int .i64 (ofI a))/\Below w.heap.size w w':=by
 by_cases hc:a=1∨a=2∨a=3∨a=4∨a=5∨a=6∨a=7
 ·rcases hc with rfl|rfl|rfl|rfl|rfl|rfl|rfl<;>
  (go_enter Tryz.func136,Tryz.ntmps136
   go_wp2_with fail
   go_ret
   exact⟨rfl,Below.refl _ _⟩)
 ·obtain⟨g1,g2,g3,g4,g5,g6,g7⟩:a≠1/\a≠2/\a≠3/\a≠4/\a≠5/\a≠6/\a≠7:=by omega
  have hO:ofI a=-1:=by unfold ofI;rw[if_neg (by omega),if_neg (by omega),if_neg (by omega),if_neg (by omega),if_neg (by omega)]
  rw[hO]
  have d1:decide (a=1)=false:=by simpa using g1
  have d2:decide (a=2)=false:=by simpa using g2
  have d3:decide (a=3)=false:=by simpa using g3
  have d4:decide (a=4)=false:=by simpa using g4
  have d5:decide (a=5)=false:=by simpa using g5
  have d6:decide (a=6)=false:=by simpa using g6
  have d7:decide (a=7)=false:=by simpa using g7
  have e1:(a==1)=false:=by simpa using g1
  have e2:(a==2)=false:=by simpa using g2
  have e3:(a==3)=false:=by simpa using g3
  have e4:(a==4)=false:=by simpa using g4
  have e5:(a==5)=false:=by simpa using g5
  have e6:(a==6)=false:=by simpa using g6
  have e7:(a==7)=false:=by simpa using g7
  clear hc
  go_enter Tryz.func136,Tryz.ntmps136
  go_wp2_with fail
  go_ret
  exact⟨rfl,Below.refl _ _⟩
theorem qQ2 (a:Int)(w:World):Calls Tryz.prog 104 #[.int .i64 a] w fun e w'=>e=.returned (.bool (Qu a))/\Below w.heap.size w w':=by
 by_cases hc:a=1∨a=2∨a=3∨a=4∨a=5∨a=6∨a=7
 ·rcases hc with rfl|rfl|rfl|rfl|rfl|rfl|rfl<;>
  (go_enter Tryz.func104,Tryz.ntmps104
   go_wp2_with fail
   go_ret
   exact⟨rfl,Below.refl _ _⟩)
 ·obtain⟨g1,g2,g3,g4,g5,g6,g7⟩:a≠1/\a≠2/\a≠3/\a≠4/\a≠5/\a≠6/\a≠7:=by omega
  have hO:Qu a=false:=by unfold Qu;rw[decide_eq_false_iff_not];omega
  rw[hO]
  have d1:decide (a=1)=false:=by simpa using g1
  have d2:decide (a=2)=false:=by simpa using g2
  have d3:decide (a=3)=false:=by simpa using g3
  have d4:decide (a=4)=false:=by simpa using g4
  have d5:decide (a=5)=false:=by simpa using g5
  have d6:decide (a=6)=false:=by simpa using g6
  have d7:decide (a=7)=false:=by simpa using g7
  have e1:(a==1)=false:=by simpa using g1
  have e2:(a==2)=false:=by simpa using g2
  have e3:(a==3)=false:=by simpa using g3
  have e4:(a==4)=false:=by simpa using g4
  have e5:(a==5)=false:=by simpa using g5
  have e6:(a==6)=false:=by simpa using g6
  have e7:(a==7)=false:=by simpa using g7
  clear hc
  go_enter Tryz.func104,Tryz.ntmps104
  go_wp2_with fail
  go_ret
  exact⟨rfl,Below.refl _ _⟩
theorem qW6 (a k:Int)(w:World):Calls Tryz.prog 149 #[.int .i64 a,.int .i64 k] w fun e w'=>e=.returned (.bool (actB a k))/\Below w.heap.size w w':=by
 by_cases hc:a=1∨a=2∨a=3∨a=4∨a=5∨a=6∨a=7
 ·rcases hc with rfl|rfl|rfl|rfl|rfl|rfl|rfl<;>
  (go_enter Tryz.func149,Tryz.ntmps149
   go_wp2_with fail
   go_ret
   exact⟨Qf (by unfold actB;simp;try (rw[Bool.eq_iff_iff];simp)),Below.refl _ _⟩)
 ·obtain⟨g1,g2,g3,g4,g5,g6,g7⟩:a≠1/\a≠2/\a≠3/\a≠4/\a≠5/\a≠6/\a≠7:=by omega
  have hO:actB a k=false:=by unfold actB;rw[if_neg (by omega),if_neg (by omega),if_neg (by omega),if_neg (by omega),decide_eq_false_iff_not];omega
  rw[hO]
  have d1:decide (a=1)=false:=by simpa using g1
  have d2:decide (a=2)=false:=by simpa using g2
  have d3:decide (a=3)=false:=by simpa using g3
  have d4:decide (a=4)=false:=by simpa using g4
  have d5:decide (a=5)=false:=by simpa using g5
  have d6:decide (a=6)=false:=by simpa using g6
  have d7:decide (a=7)=false:=by simpa using g7
  have e1:(a==1)=false:=by simpa using g1
  have e2:(a==2)=false:=by simpa using g2
  have e3:(a==3)=false:=by simpa using g3
  have e4:(a==4)=false:=by simpa using g4
  have e5:(a==5)=false:=by simpa using g5
  have e6:(a==6)=false:=by simpa using g6
  have e7:(a==7)=false:=by simpa using g7
  clear hc
  go_enter Tryz.func149,Tryz.ntmps149
  go_wp2_with fail
  go_ret
  exact⟨rfl,Below.refl _ _⟩
theorem qQ3 {k:ByteArray}(h:0<k.size):kindB k=if ((k[0].toNat:Int)==102)=true then 1 else if ((k[0].toNat:Int)==115)=true then 2 else if ((k[0].toNat:Int)==99)=true then 3 else if ((k[0].toNat:Int)==114)=true then 4 else if ((k[0].toNat:Int)==109)=true then 5 else 0:=by
 obtain⟨⟨l⟩⟩:=k
 cases l with
 |nil=>exact absurd h (by decide)
 |cons b r=>
  have hb:∀ n:UInt8,(((b.toNat:Int)==((n.toNat:Nat):Int))=true)=(b=n):=fun n=>by rw[eq_iff_iff,beq_iff_eq];exact⟨fun h=>UInt8.toNat_inj.1 (by omega),fun h=>by rw[h]⟩
  have e0:(ByteArray.mk ⟨b :: r⟩)[0]=b:=rfl
  have h1:=hb 102
  have h2:=hb 115
  have h3:=hb 99
  have h4:=hb 114
  have h5:=hb 109
  rw[e0]
  unfold kindB
  simp only[show ((102:UInt8).toNat:Int)=102 from rfl,show ((115:UInt8).toNat:Int)=115 from rfl,show ((99:UInt8).toNat:Int)=99 from rfl,show ((114:UInt8).toNat:Int)=114 from rfl,show ((109:UInt8).toNat:Int)=109 from rfl]at h1 h2 h3 h4 h5
  simp only[h1,h2,h3,h4,h5]
theorem qY3 {k:ByteArray}(h:¬0<k.size):kindB k=0:=by
 obtain⟨⟨l⟩⟩:=k
 cases l with
 |nil=>rfl
 |cons b r=>exact absurd (show 0<(b :: r).length by simp) h
theorem Km {k:ByteArray}(h:0<k.size):k.toList.isEmpty=false:=by
 rw[ByteArray.toList_eq]
 obtain⟨⟨l⟩⟩:=k
 cases l with
 |nil=>exact absurd h (by decide)
 |cons b r=>rfl
theorem Ko {k:ByteArray}(h:¬0<k.size):k.toList.isEmpty=true:=by
 rw[ByteArray.toList_eq]
 obtain⟨⟨l⟩⟩:=k
 cases l with
 |nil=>rfl
 |cons b r=>exact absurd (show 0<(b :: r).length by simp) h
theorem Q6 (k:ByteArray)(w:World) :
  Calls Tryz.prog 84 #[.string k] w fun e w'=>e=.returned (.int .i64 (kindB k))/\Below w.heap.size w w':=by
 by_cases h0:0<k.size
 ·have HK:=hid (qQ3 h0)
  have he:k.toList.isEmpty=false:=Km h0
  go_enter Tryz.func84,Tryz.ntmps84
  go_wp2_with fail
  all_goals (go_ret;exact⟨Qn (by rw[HK.out];simp_all),Below.refl _ _⟩)
 ·rw[qY3 h0]
  have he:k.toList.isEmpty=true:=Ko h0
  go_enter Tryz.func84,Tryz.ntmps84
  go_wp2_with fail
  all_goals (go_ret;exact⟨rfl,Below.refl _ _⟩)
theorem zXq (x:ByteArray)(w:World)(hx:x.size<=Big):Calls Tryz.prog 126 #[.string x] w fun e w'=>e=.returned (.bool (Q7 x))/\Below w.heap.size w w':=by
 unfold Big at hx
 go_enter Tryz.func126,Tryz.ntmps126
 by_cases hb:30<x.size
 ·go_wp2_with fail
  go_ret
  exact⟨Qf (by unfold Q7;simp[hb]),Below.refl _ _⟩
 ·go_wp2_with fail
  refine (Q6 x _).mono ?_
  rintro e w1 ⟨rfl,hb1⟩
  go_wp2_with fail
  go_ret
  exact⟨Qf (by unfold Q7;rw[Bool.eq_iff_iff];simp[hb];omega),hb1⟩
theorem zXr (x:ByteArray)(w:World):Calls Tryz.prog 127 #[.string x] w fun e w'=>e=.returned (.bool (noMap x))/\Below w.heap.size w w':=by
 go_enter Tryz.func127,Tryz.ntmps127
 go_wp2_with fail
 refine (Q6 x _).mono ?_
 rintro e w1 ⟨rfl,hb1⟩
 go_wp2_with fail
 go_ret
 exact⟨Qf (by unfold noMap;rw[Bool.eq_iff_iff];simp),hb1⟩
theorem zQw (w:World):JM 126 #[] Q7 w:=⟨enters_of Tryz.func126 (by kernel_rfl) rfl,fun x W hx _=>zXq x W hx⟩
theorem zQx (w:World):JM 127 #[] noMap w:=⟨enters_of Tryz.func127 (by kernel_rfl) rfl,fun x W _ _=>zXr x W⟩
theorem XP (p:List ByteArray)(vp:Value)(w:World)(h:SlP w w.heap.size 1 StE vp p) :
  Calls Tryz.prog 82 #[vp] w fun e w'=>e=.returned (.int .i64 (pathI p))/\Below w.heap.size w w':=by
 have HC:Hid (∀ w',Below w.heap.size w w'->SlP w' w'.heap.size 1 StE vp p):=fun w' hb=>h.imp hb hb.size fun _ _ _ h=>h
 obtain⟨A,c,rfl,c1,c2,_⟩:=h
 unfold Big at c2
 go_enter Tryz.func82,Tryz.ntmps82
 by_cases h1:p.length<1
 ·have hP:pathI p=1:=by unfold pathI;rw[if_pos (.inl h1)]
  rw[hP]
  clear hP
  go_wp2_with fail
  go_ret
  exact⟨rfl,Below.refl _ _⟩
 by_cases h3:3<p.length
 ·have hP:pathI p=1:=by unfold pathI;rw[if_pos (.inr (.inl h3))]
  rw[hP]
  clear hP
  go_wp2_with fail
  go_ret
  exact⟨rfl,Below.refl _ _⟩
 go_wp2_with fail
 refine (X0 Q7 _ #[] p _ _ (HC.out _ (Below.refl _ _)) (zQw _)).mono ?_
 cases hq:p.any Q7
 ·rintro e w1 ⟨rfl,hb1⟩
  have hP:pathI p=if p.dropLast.any noMap then 6 else 0:=by unfold pathI;rw[if_neg (by rintro (h|h|h)<;>first|omega|(rw[hq]at h;cases h))]
  have HPI:=hid hP
  have HP:Hid (SlP w1 w1.heap.size 1 StE (.slice A (p.length-1) c) p.dropLast):=by
   rw[List.dropLast_eq_take]
   exact (HC.out _ hb1).takeK (by omega)
  clear hP hq
  go_wp2_with fail
  refine (X0 noMap _ #[] p.dropLast _ _ HP.out (zQx _)).mono ?_
  cases hn:p.dropLast.any noMap
  ·rintro e w2 ⟨rfl,hb2⟩
   have HN:=hid hn
   clear hn
   go_wp2_with fail
   go_ret
   exact⟨Qn (by rw[HPI.out,HN.out];rfl),hb1.trans (hb2.mono hb1.size)⟩
  ·rintro e w2 ⟨rfl,hb2⟩
   have HN:=hid hn
   clear hn
   go_wp2_with fail
   go_ret
   exact⟨Qn (by rw[HPI.out,HN.out];rfl),hb1.trans (hb2.mono hb1.size)⟩
 ·rintro e w1 ⟨rfl,hb1⟩
  have hP:pathI p=1:=by unfold pathI;rw[if_pos (.inr (.inr hq))]
  have HPI:=hid hP
  clear hP hq
  go_wp2_with fail
  go_ret
  exact⟨Qn HPI.out.symm,hb1⟩
theorem Zh {path:List ByteArray}{act n:Int}{s:ByteArray}(hp:pathI path=0)(ha:actB act (kindB (lastK path))=true):opI ⟨path,act,s,n⟩=if opTxt ⟨path,act,s,n⟩&&opNum ⟨path,act,s,n⟩ then 0 else 1:=by
 unfold opI
 simp only
 rw[if_neg (by omega),ha];rfl
theorem ZY (s:ByteArray):(s.toList=[])=(s.size=0):=by
 rw[eq_iff_iff]
 by_cases h:s.size=0
 ·have:=Ko (k:=s) (by omega);rw[List.isEmpty_iff]at this;simp[this,h]
 ·have:=Km (k:=s) (by omega);rw[←Bool.not_eq_true,List.isEmpty_iff]at this;exact⟨fun e=>absurd e this,fun e=>absurd e h⟩
theorem tol_f (s:ByteArray):(s.toList.isEmpty=false)=(s.size≠0):=by rw[←Bool.not_eq_true,List.isEmpty_iff,ZY]
theorem tol_t (s:ByteArray):(s.toList.isEmpty=true)=(s.size=0):=by rw[List.isEmpty_iff,ZY]
theorem qW7 (o:Opr)(vp:Value)(w:World)(h:SlP w w.heap.size 1 StE vp o.path)(ho:o.Ok) :
  Calls Tryz.prog 97 #[.agg #[vp,.int .i64 o.act,.string o.s,.int .i64 o.n]] w fun e w'=>e=.returned (.int .i64 (opI o))/\Below w.heap.size w w':=by
 have HC:Hid (∀ w',Below w.heap.size w w'->SlP w' w'.heap.size 1 StE vp o.path):=fun w' hb=>h.imp hb hb.size fun _ _ _ h=>h
 obtain⟨A,c,rfl,c1,c2,c3⟩:=h
 have hs:=ho.s
 unfold Big at c2 hs
 obtain⟨path,act,s,n⟩:=o
 simp only at HC c1 c2 c3 hs ⊢
 have HX:Hid (∀ W,Below (w.heap.size+1) (w.alloc (.cells #[.slice A path.length c,.int .i64 act,.string s,.int .i64 n] 65)) W->(Below w.heap.size w W/\SlP W W.heap.size 1 StE (.slice A path.length c) path/\W.cell? ⟨w.heap.size,0,none⟩=some (.slice A path.length c)/\W.cell? ⟨w.heap.size,1,none⟩=some (.int .i64 act)/\W.cell? ⟨w.heap.size,2,none⟩=some (.string s)/\W.cell? ⟨w.heap.size,3,none⟩=some (.int .i64 n))):=fun W hW=>by
  have g0:W.heap[w.heap.size]?=some (.cells #[.slice A path.length c,.int .i64 act,.string s,.int .i64 n] 65 (0,0)):=(hW.block _ (by omega)).trans (Qd rfl)
  have hB:Below w.heap.size w W:=((Below.refl _ w).alloc (Nat.le_refl _) _).trans (hW.mono (by omega))
  exact⟨hB,HC.out _ hB,Qa (i:=0) g0,Qa (i:=1) g0,Qa (i:=2) g0,Qa (i:=3) g0⟩
 go_enter Tryz.func97,Tryz.ntmps97
 go_wp2_with fail
 obtain⟨hB,hp,q0,q1,q2,q3⟩:=HX.out _ (Below.refl _ _)
 refine (XP path _ _ hp).mono ?_
 rintro e w1 ⟨rfl,hb1⟩
 have hbx:Below (w.heap.size+1) (w.alloc (.cells #[.slice A path.length c,.int .i64 act,.string s,.int .i64 n] 65)) w1:=hb1.mono (by simp)
 have HB1:=hid hbx
 clear hB hp q0 q1 q2 q3 hb1 hbx
 obtain⟨hB,hp,q0,q1,q2,q3⟩:=HX.out _ HB1.out
 by_cases hpz:pathI path=0
 ·have hpl:=(QY hpz).1
  have hpu:=(QY hpz).2.1
  have HPZ:=hid hpz
  rw[hpz]
  clear hpz
  go_wp2_with fail
  refine (zYp act _).mono ?_
  rintro e w2 ⟨rfl,hb2⟩
  have HB2:=hid (HB1.out.trans (hb2.mono (by have:=hB.size;have:=HB1.out.size;simp at this;omega)))
  clear hB hp q0 q1 q2 q3 hb2
  obtain⟨hB,hp,q0,q1,q2,q3⟩:=HX.out _ HB2.out
  rcases (show act=1∨act=2∨act=3∨act=4∨act=5∨act=6∨act=7∨(act≠1/\act≠2/\act≠3/\act≠4/\act≠5/\act≠6/\act≠7) by omega) with rfl|rfl|rfl|rfl|rfl|rfl|rfl|⟨g1,g2,g3,g4,g5,g6,g7⟩
  ·simp only[show ofI 1=1 from rfl]
   obtain⟨bq,offq,hAq,hbq,hcq⟩:=c3 (by rintro rfl;simp at hpl)
   cases hAq
   obtain⟨cs,⟨rfl,hok⟩,_,hu⟩:=hcq (path.length-1) _ (ZA hpl)
   have e0:=(hB.cell (p:=⟨bq,offq+(path.length-1),none⟩) hbq).trans (by simpa using hu 0 _ rfl)
   clear hu hcq c3
   go_wp2_with fail
   refine (Q6 (lastK path) _).mono ?_
   by_cases hk:kindB (lastK path)=1
   ·rw[hk]
    rintro e w3 ⟨rfl,hb3⟩
    have HA:Hid (actB 1 (kindB (lastK path))=true):=by unfold Hid actB;rw[hk];simp
    have HB3:=hid (HB2.out.trans (hb3.mono (by have:=hB.size;have:=HB2.out.size;simp at this;omega)))
    clear hB hp q0 q1 q2 q3 hb3 e0 hk
    obtain⟨hB,hp,q0,q1,q2,q3⟩:=HX.out _ HB3.out
    have HE:Hid (∀ (s:ByteArray) (n:Int),opI ⟨path,1,s,n⟩=if s.size=0/\n=0 then 0 else 1):=by
     intro s n
     rw[Zh HPZ.out HA.out]
     unfold opTxt opNum keyB
     simp
    go_wp2_with fail
    all_goals (go_ret;refine⟨Qn ?_,hB⟩;rw[HE.out])
    all_goals ((try simp only[ZY]at *);(try simp only[tol_f]at *);(try simp only[tol_t]at *))
    all_goals (first|(exfalso;omega)|(rw[if_pos (by omega)];done)|(rw[if_neg (by omega)];done))
   ·have hn:((1:Int)==kindB (lastK path))=false:=by simpa using fun h=>hk h.symm
    have HO:Hid (opI ⟨path,1,s,n⟩=6):=by unfold Hid opI;simp only;rw[if_neg (by rw[HPZ.out];simp),if_pos (by unfold actB;simp[hk])]
    rintro e w3 ⟨rfl,hb3⟩
    have hB3:=hB.trans (hb3.mono hB.size)
    clear hk
    go_wp2_with fail
    go_ret
    exact⟨Qn HO.out.symm,hB3⟩
  ·simp only[show ofI 2=1 from rfl]
   obtain⟨bq,offq,hAq,hbq,hcq⟩:=c3 (by rintro rfl;simp at hpl)
   cases hAq
   obtain⟨cs,⟨rfl,hok⟩,_,hu⟩:=hcq (path.length-1) _ (ZA hpl)
   have e0:=(hB.cell (p:=⟨bq,offq+(path.length-1),none⟩) hbq).trans (by simpa using hu 0 _ rfl)
   clear hu hcq c3
   go_wp2_with fail
   refine (Q6 (lastK path) _).mono ?_
   by_cases hk:kindB (lastK path)=1
   ·rw[hk]
    rintro e w3 ⟨rfl,hb3⟩
    have HA:Hid (actB 2 (kindB (lastK path))=true):=by unfold Hid actB;rw[hk];simp
    have HB3:=hid (HB2.out.trans (hb3.mono (by have:=hB.size;have:=HB2.out.size;simp at this;omega)))
    clear hB hp q0 q1 q2 q3 hb3 e0 hk
    obtain⟨hB,hp,q0,q1,q2,q3⟩:=HX.out _ HB3.out
    have HE:Hid (∀ (s:ByteArray) (n:Int),opI ⟨path,2,s,n⟩=if s.size=0/\n=0 then 0 else 1):=by
     intro s n
     rw[Zh HPZ.out HA.out]
     unfold opTxt opNum keyB
     simp
    go_wp2_with fail
    all_goals (go_ret;refine⟨Qn ?_,hB⟩;rw[HE.out])
    all_goals ((try simp only[ZY]at *);(try simp only[tol_f]at *);(try simp only[tol_t]at *))
    all_goals (first|(exfalso;omega)|(rw[if_pos (by omega)];done)|(rw[if_neg (by omega)];done))
   ·have hn:((1:Int)==kindB (lastK path))=false:=by simpa using fun h=>hk h.symm
    have HO:Hid (opI ⟨path,2,s,n⟩=6):=by unfold Hid opI;simp only;rw[if_neg (by rw[HPZ.out];simp),if_pos (by unfold actB;simp[hk])]
    rintro e w3 ⟨rfl,hb3⟩
    have hB3:=hB.trans (hb3.mono hB.size)
    clear hk
    go_wp2_with fail
    go_ret
    exact⟨Qn HO.out.symm,hB3⟩
  ·simp only[show ofI 3=2 from rfl]
   obtain⟨bq,offq,hAq,hbq,hcq⟩:=c3 (by rintro rfl;simp at hpl)
   cases hAq
   obtain⟨cs,⟨rfl,hok⟩,_,hu⟩:=hcq (path.length-1) _ (ZA hpl)
   have e0:=(hB.cell (p:=⟨bq,offq+(path.length-1),none⟩) hbq).trans (by simpa using hu 0 _ rfl)
   clear hu hcq c3
   go_wp2_with fail
   refine (Q6 (lastK path) _).mono ?_
   by_cases hk:kindB (lastK path)=2
   ·rw[hk]
    rintro e w3 ⟨rfl,hb3⟩
    have HA:Hid (actB 3 (kindB (lastK path))=true):=by unfold Hid actB;rw[hk];simp
    have HB3:=hid (HB2.out.trans (hb3.mono (by have:=hB.size;have:=HB2.out.size;simp at this;omega)))
    clear hB hp q0 q1 q2 q3 hb3 e0 hk
    obtain⟨hB,hp,q0,q1,q2,q3⟩:=HX.out _ HB3.out
    have HE:Hid (∀ (s:ByteArray) (n:Int),opI ⟨path,3,s,n⟩=if (1<=s.size/\s.size<=30)/\n=0 then 0 else 1):=by
     intro s n
     rw[Zh HPZ.out HA.out]
     unfold opTxt opNum keyB
     simp
    go_wp2_with fail
    all_goals (go_ret;refine⟨Qn ?_,hB⟩;rw[HE.out])
    all_goals ((try simp only[tol_f]at *);(try simp only[tol_t]at *))
    all_goals (first|(exfalso;omega)|(rw[if_pos (by omega)];done)|(rw[if_neg (by omega)];done))
   ·have hn:((2:Int)==kindB (lastK path))=false:=by simpa using fun h=>hk h.symm
    have HO:Hid (opI ⟨path,3,s,n⟩=6):=by unfold Hid opI;simp only;rw[if_neg (by rw[HPZ.out];simp),if_pos (by unfold actB;simp[hk])]
    rintro e w3 ⟨rfl,hb3⟩
    have hB3:=hB.trans (hb3.mono hB.size)
    clear hk
    go_wp2_with fail
    go_ret
    exact⟨Qn HO.out.symm,hB3⟩
  ·simp only[show ofI 4=2 from rfl]
   obtain⟨bq,offq,hAq,hbq,hcq⟩:=c3 (by rintro rfl;simp at hpl)
   cases hAq
   obtain⟨cs,⟨rfl,hok⟩,_,hu⟩:=hcq (path.length-1) _ (ZA hpl)
   have e0:=(hB.cell (p:=⟨bq,offq+(path.length-1),none⟩) hbq).trans (by simpa using hu 0 _ rfl)
   clear hu hcq c3
   go_wp2_with fail
   refine (Q6 (lastK path) _).mono ?_
   by_cases hk:kindB (lastK path)=2
   ·rw[hk]
    rintro e w3 ⟨rfl,hb3⟩
    have HA:Hid (actB 4 (kindB (lastK path))=true):=by unfold Hid actB;rw[hk];simp
    have HB3:=hid (HB2.out.trans (hb3.mono (by have:=hB.size;have:=HB2.out.size;simp at this;omega)))
    clear hB hp q0 q1 q2 q3 hb3 e0 hk
    obtain⟨hB,hp,q0,q1,q2,q3⟩:=HX.out _ HB3.out
    have HE:Hid (∀ (s:ByteArray) (n:Int),opI ⟨path,4,s,n⟩=if (1<=s.size/\s.size<=30)/\n=0 then 0 else 1):=by
     intro s n
     rw[Zh HPZ.out HA.out]
     unfold opTxt opNum keyB
     simp
    go_wp2_with fail
    all_goals (go_ret;refine⟨Qn ?_,hB⟩;rw[HE.out])
    all_goals ((try simp only[tol_f]at *);(try simp only[tol_t]at *))
    all_goals (first|(exfalso;omega)|(rw[if_pos (by omega)];done)|(rw[if_neg (by omega)];done))
   ·have hn:((2:Int)==kindB (lastK path))=false:=by simpa using fun h=>hk h.symm
    have HO:Hid (opI ⟨path,4,s,n⟩=6):=by unfold Hid opI;simp only;rw[if_neg (by rw[HPZ.out];simp),if_pos (by unfold actB;simp[hk])]
    rintro e w3 ⟨rfl,hb3⟩
    have hB3:=hB.trans (hb3.mono hB.size)
    clear hk
    go_wp2_with fail
    go_ret
    exact⟨Qn HO.out.symm,hB3⟩
  ·simp only[show ofI 5=3 from rfl]
   obtain⟨bq,offq,hAq,hbq,hcq⟩:=c3 (by rintro rfl;simp at hpl)
   cases hAq
   obtain⟨cs,⟨rfl,hok⟩,_,hu⟩:=hcq (path.length-1) _ (ZA hpl)
   have e0:=(hB.cell (p:=⟨bq,offq+(path.length-1),none⟩) hbq).trans (by simpa using hu 0 _ rfl)
   clear hu hcq c3
   go_wp2_with fail
   refine (Q6 (lastK path) _).mono ?_
   by_cases hk:kindB (lastK path)=3
   ·rw[hk]
    rintro e w3 ⟨rfl,hb3⟩
    have HA:Hid (actB 5 (kindB (lastK path))=true):=by unfold Hid actB;rw[hk];simp
    have HB3:=hid (HB2.out.trans (hb3.mono (by have:=hB.size;have:=HB2.out.size;simp at this;omega)))
    clear hB hp q0 q1 q2 q3 hb3 e0 hk
    obtain⟨hB,hp,q0,q1,q2,q3⟩:=HX.out _ HB3.out
    have HE:Hid (∀ (s:ByteArray) (n:Int),opI ⟨path,5,s,n⟩=if s.size=0/\-1099511627776<=n/\n<=1099511627776 then 0 else 1):=by
     intro s n
     rw[Zh HPZ.out HA.out]
     unfold opTxt opNum keyB
     simp
    go_wp2_with fail
    all_goals (go_ret;refine⟨Qn ?_,hB⟩;rw[HE.out])
    all_goals ((try simp only[ZY]at *);(try simp only[tol_f]at *);(try simp only[tol_t]at *))
    all_goals (first|(exfalso;omega)|(rw[if_pos (by omega)];done)|(rw[if_neg (by omega)];done))
   ·have hn:((3:Int)==kindB (lastK path))=false:=by simpa using fun h=>hk h.symm
    have HO:Hid (opI ⟨path,5,s,n⟩=6):=by unfold Hid opI;simp only;rw[if_neg (by rw[HPZ.out];simp),if_pos (by unfold actB;simp[hk])]
    rintro e w3 ⟨rfl,hb3⟩
    have hB3:=hB.trans (hb3.mono hB.size)
    clear hk
    go_wp2_with fail
    go_ret
    exact⟨Qn HO.out.symm,hB3⟩
  ·simp only[show ofI 6=4 from rfl]
   obtain⟨bq,offq,hAq,hbq,hcq⟩:=c3 (by rintro rfl;simp at hpl)
   cases hAq
   obtain⟨cs,⟨rfl,hok⟩,_,hu⟩:=hcq (path.length-1) _ (ZA hpl)
   have e0:=(hB.cell (p:=⟨bq,offq+(path.length-1),none⟩) hbq).trans (by simpa using hu 0 _ rfl)
   clear hu hcq c3
   go_wp2_with fail
   refine (Q6 (lastK path) _).mono ?_
   by_cases hk:kindB (lastK path)=4
   ·rw[hk]
    rintro e w3 ⟨rfl,hb3⟩
    have HA:Hid (actB 6 (kindB (lastK path))=true):=by unfold Hid actB;rw[hk];simp
    have HB3:=hid (HB2.out.trans (hb3.mono (by have:=hB.size;have:=HB2.out.size;simp at this;omega)))
    clear hB hp q0 q1 q2 q3 hb3 e0 hk
    obtain⟨hB,hp,q0,q1,q2,q3⟩:=HX.out _ HB3.out
    have HE:Hid (∀ (s:ByteArray) (n:Int),opI ⟨path,6,s,n⟩=if s.size<=30/\n=0 then 0 else 1):=by
     intro s n
     rw[Zh HPZ.out HA.out]
     unfold opTxt opNum keyB
     simp
    go_wp2_with fail
    all_goals (go_ret;refine⟨Qn ?_,hB⟩;rw[HE.out])
    skip
    all_goals (first|(exfalso;omega)|(rw[if_pos (by omega)];done)|(rw[if_neg (by omega)];done))
   ·have hn:((4:Int)==kindB (lastK path))=false:=by simpa using fun h=>hk h.symm
    have HO:Hid (opI ⟨path,6,s,n⟩=6):=by unfold Hid opI;simp only;rw[if_neg (by rw[HPZ.out];simp),if_pos (by unfold actB;simp[hk])]
    rintro e w3 ⟨rfl,hb3⟩
    have hB3:=hB.trans (hb3.mono hB.size)
    clear hk
    go_wp2_with fail
    go_ret
    exact⟨Qn HO.out.symm,hB3⟩
  ·simp only[show ofI 7=0 from rfl]
   have HA:Hid (actB 7 (kindB (lastK path))=true):=rfl
   have HE:Hid (∀ (s:ByteArray) (n:Int),opI ⟨path,7,s,n⟩=if s.size=0/\n=0 then 0 else 1):=by
    intro s n
    rw[Zh HPZ.out HA.out]
    unfold opTxt opNum keyB
    simp
   go_wp2_with fail
   all_goals (go_ret;refine⟨Qn ?_,hB⟩;rw[HE.out])
   all_goals ((try simp only[ZY]at *);(try simp only[tol_f]at *);(try simp only[tol_t]at *))
   all_goals (first|(exfalso;omega)|(rw[if_pos (by omega)];done)|(rw[if_neg (by omega)];done))
  ·have hO:ofI act=-1:=by unfold ofI;rw[if_neg (by omega),if_neg (by omega),if_neg (by omega),if_neg (by omega),if_neg (by omega)]
   rw[hO]
   have HO:Hid (opI ⟨path,act,s,n⟩=6):=by
    unfold Hid opI;simp only
    rw[if_neg (by rw[HPZ.out];simp),if_pos]
    unfold actB
    rw[if_neg (by omega),if_neg (by omega),if_neg (by omega),if_neg (by omega)]
    simp[g7]
   go_wp2_with fail
   go_ret
   exact⟨Qn HO.out.symm,hB⟩
 ·have hO:Hid (opI ⟨path,act,s,n⟩=pathI path):=by unfold Hid opI;simp only;rw[if_pos hpz]
  have hne:(pathI path==0)=false:=by simpa using hpz
  have hne':(pathI path != 0)=true:=by simpa using hpz
  clear hpz
  go_wp2_with fail
  go_ret
  exact⟨Qn hO.out.symm,hB⟩
def RetVE (w:World)(v:Vw)(k:Int)(e:Ending)(w':World):Prop:=
 ∃ vl,e=.returned (.tuple #[.agg #[.int .i64 v.kind,.bool v.on,.int .i64 v.n,vl],.int .i64 k])/\SlA w' (fun b=>w.heap.size<=b/\b<w'.heap.size) 1 StE vl v.l/\Below w.heap.size w w'
theorem box4 {w:World}{g:Nat}{x y z u:Value}{e:TypeId}(hbx:w.heap[g]?=some (.cells #[x,y,z,u] e (0,0)))(a b c d:Value) :
  ((((w.setCell ⟨g,0,none⟩ a).setCell ⟨g,1,none⟩ b).setCell ⟨g,2,none⟩ c).setCell ⟨g,3,none⟩ d).cell? ⟨g,0,none⟩=some a/\((((w.setCell ⟨g,0,none⟩ a).setCell ⟨g,1,none⟩ b).setCell ⟨g,2,none⟩ c).setCell ⟨g,3,none⟩ d).cell? ⟨g,1,none⟩=some b/\((((w.setCell ⟨g,0,none⟩ a).setCell ⟨g,1,none⟩ b).setCell ⟨g,2,none⟩ c).setCell ⟨g,3,none⟩ d).cell? ⟨g,2,none⟩=some c/\((((w.setCell ⟨g,0,none⟩ a).setCell ⟨g,1,none⟩ b).setCell ⟨g,2,none⟩ c).setCell ⟨g,3,none⟩ d).cell? ⟨g,3,none⟩=some d /\
   (∀ k,k≠g->((((w.setCell ⟨g,0,none⟩ a).setCell ⟨g,1,none⟩ b).setCell ⟨g,2,none⟩ c).setCell ⟨g,3,none⟩ d).heap[k]?=w.heap[k]?)/\((((w.setCell ⟨g,0,none⟩ a).setCell ⟨g,1,none⟩ b).setCell ⟨g,2,none⟩ c).setCell ⟨g,3,none⟩ d).heap.size=w.heap.size:=by
 have hW:=Qe (i:=3) (Qe (i:=2) (Qe (i:=1) (Qe (i:=0) hbx a) b) c) d
 exact⟨(Qa (i:=0) hW).trans (by simp),(Qa (i:=1) hW).trans (by simp),(Qa (i:=2) hW).trans (by simp),(Qa (i:=3) hW).trans (by simp),
  fun k hk=>(Below.heap_setCell _ _ _ _ hk).trans ((Below.heap_setCell _ _ _ _ hk).trans ((Below.heap_setCell _ _ _ _ hk).trans (Below.heap_setCell _ _ _ _ hk))),by simp[World.setCell]⟩
theorem Qx {B:Nat}{w0 w:World}{g:Nat}(h:Below B w0 w)(hg:B<=g)(a b c d:Value):Below B w0 ((((w.setCell ⟨g,0,none⟩ a).setCell ⟨g,1,none⟩ b).setCell ⟨g,2,none⟩ c).setCell ⟨g,3,none⟩ d):=
 (((h.setCell (p:=⟨g,0,none⟩) hg a).setCell (p:=⟨g,1,none⟩) hg b).setCell (p:=⟨g,2,none⟩) hg c).setCell (p:=⟨g,3,none⟩) hg d
theorem qY5 (u:Tr):(Q1 u).length<=u.es.length:=by
 unfold Q1
 have h1:∀ l:List ByteArray,(cmpL (srtL l)).length<=l.length:=fun l=>by
  rw[sd_eq]
  obtain⟨h1,h2⟩:=Vv l
  exact List.Nodup.length_le_of_subset (qYl h1) fun x hx=>(h2 x).1 hx
 refine Nat.le_trans (h1 _) ?_
 split
 ·unfold txtL;simp
 ·simp
theorem qY6 (u:Tr):(Q8 u).length<=u.ks.length:=by unfold Q8;split<;>simp
theorem Jz {t:Tr}{p:List ByteArray}(h:readI t p≠0):readV t p=vw0:=by unfold readV;rw[if_neg h]
theorem qKg (t:Tr)(path:List ByteArray)(ve vk vp:Value)(w:World)(h:t.rd w w.heap.size ve vk)(hp:SlP w w.heap.size 1 StE vp path)(hN:t.sz<=4000) :
  Calls Tryz.prog 47 #[.agg #[ve,vk],vp] w (RetVE w (readV t path) (readI t path)):=by
 have HC:Hid (∀ w',Below w.heap.size w w'->t.rd w' w'.heap.size ve vk):=fun w' hb=>Qi hb hb.size _ _ _ h
 have HD:Hid (∀ w',Below w.heap.size w w'->SlP w' w'.heap.size 1 StE vp path):=fun w' hb=>hp.imp hb hb.size fun _ _ _ h=>h
 obtain⟨A3,n3,A4,n4,rfl,rfl⟩:=Qj h
 obtain⟨A5,n5,rfl,p1,p2,p3⟩:=hp
 unfold Big at p2
 have hb0:=((Below.refl w.heap.size w).alloc (Nat.le_refl _) (.cells #[.slice A3 t.es.length n3,.slice A4 t.ks.length n4] 25)).alloc (by simp) (.cells #[.int .i64 0,.bool false,.int .i64 0,.slice none 0 0] 55)
 have HX:Hid (∀ W,Below (w.heap.size+2) ((w.alloc (.cells #[.slice A3 t.es.length n3,.slice A4 t.ks.length n4] 25)).alloc (.cells #[.int .i64 0,.bool false,.int .i64 0,.slice none 0 0] 55)) W ->
   (Below w.heap.size w W/\t.rd W W.heap.size (.slice A3 t.es.length n3) (.slice A4 t.ks.length n4)/\SlP W W.heap.size 1 StE (.slice A5 path.length n5) path/\W.cell? ⟨w.heap.size,0,none⟩=some (.slice A3 t.es.length n3)/\W.cell? ⟨w.heap.size,1,none⟩=some (.slice A4 t.ks.length n4)/\W.heap[w.heap.size+1]?=some (.cells #[.int .i64 0,.bool false,.int .i64 0,.slice none 0 0] 55 (0,0)))):=fun W hW=>by
  have g0:W.heap[w.heap.size]?=some (.cells #[.slice A3 t.es.length n3,.slice A4 t.ks.length n4] 25 (0,0)):=(hW.block _ (by omega)).trans ((Qg (by simp)).trans (Qd rfl))
  have g1:W.heap[w.heap.size+1]?=some (.cells #[.int .i64 0,.bool false,.int .i64 0,.slice none 0 0] 55 (0,0)):=(hW.block _ (by omega)).trans (Qd (by simp))
  have hB:=hb0.trans (hW.mono (by omega))
  exact⟨hB,HC.out _ hB,HD.out _ hB,Qa (i:=0) g0,Qa (i:=1) g0,g1⟩
 clear h
 go_enter Tryz.func47,Tryz.ntmps47
 go_wp2_with fail
 obtain⟨hB,rt,rp,c0,c1,g1⟩:=HX.out _ (Below.refl _ _)
 refine (QH t _ _ _ rt).mono ?_
 cases ht:t.right 5
 ·rintro e w1 ⟨rfl,hb1⟩
  have HBN:=hid (hb1.mono (show w.heap.size+2<=_ by simp))
  have hRI:readI t path=1:=by unfold readI;rw[ht];rfl
  have HRI:=hid hRI
  have HRV:=hid (Jz (t:=t) (p:=path) (by rw[hRI];decide))
  clear hB rt rp c0 c1 g1 ht hb1 hRI
  have hGZ:=(HX.out _ HBN.out).2.2.2.2.2
  have hBz:=(HX.out _ HBN.out).1
  have HG:=hid hGZ
  have HBZ:=hid hBz
  obtain⟨k0,k1,k2,k3,z0,z1,z2,z3⟩:=bz4 hGZ
  clear hGZ hBz
  go_wp2_with fail
  obtain⟨r0,r1,r2,r3,hK,hS⟩:=box4 HG.out (.int .i64 0) (.bool false) (.int .i64 0) (.slice none 0 0)
  have hBW:=Qx HBZ.out (show w.heap.size<=w.heap.size+1 by omega) (.int .i64 0) (.bool false) (.int .i64 0) (.slice none 0 0)
  exact bodyPost_ret (v:=.tuple #[.agg #[.int .i64 0,.bool false,.int .i64 0,.slice none 0 0],.int .i64 1]) (by simp[results,Tryz.results47,go_sem,r0,r1,r2,r3]<;>rfl) rfl ⟨_,by rw[HRI.out,HRV.out];rfl,by rw[HRV.out];exact SlA.nil,hBW⟩
 rintro e w1 ⟨rfl,hb1⟩
 have HBN:=hid (hb1.mono (show w.heap.size+2<=_ by simp))
 clear hB rt rp c0 c1 g1 hb1
 obtain⟨hB,rt,rp,c0,c1,g1⟩:=HX.out _ HBN.out
 have HT:=hid ht
 clear ht
 go_wp2_with fail
 refine (XP path _ _ rp).mono ?_
 by_cases hi:pathI path=0
 case neg=>
  rintro e w2 ⟨rfl,hb2⟩
  have HBN2:=hid (HBN.out.trans (hb2.mono (by have:=HBN.out.size;simpa using this)))
  have hne:(pathI path==0)=false:=by simpa using hi
  have hRI:readI t path=pathI path:=by unfold readI;rw[HT.out];rfl
  have HRI:=hid hRI
  have HRV:=hid (Jz (t:=t) (p:=path) (by rw[hRI];exact hi))
  clear hB rt rp c0 c1 g1 hb2 hi HBN hRI
  have HBN:=HBN2
  have hGZ:=(HX.out _ HBN.out).2.2.2.2.2
  have hBz:=(HX.out _ HBN.out).1
  have HG:=hid hGZ
  have HBZ:=hid hBz
  obtain⟨k0,k1,k2,k3,z0,z1,z2,z3⟩:=bz4 hGZ
  clear hGZ hBz
  go_wp2_with fail
  obtain⟨r0,r1,r2,r3,hK,hS⟩:=box4 HG.out (.int .i64 0) (.bool false) (.int .i64 0) (.slice none 0 0)
  have hBW:=Qx HBZ.out (show w.heap.size<=w.heap.size+1 by omega) (.int .i64 0) (.bool false) (.int .i64 0) (.slice none 0 0)
  exact bodyPost_ret (v:=.tuple #[.agg #[.int .i64 0,.bool false,.int .i64 0,.slice none 0 0],.int .i64 (pathI path)]) (by simp[results,Tryz.results47,go_sem,r0,r1,r2,r3]<;>rfl) rfl ⟨_,by rw[HRI.out,HRV.out];rfl,by rw[HRV.out];exact SlA.nil,hBW⟩
 rw[hi]
 rintro e w2 ⟨rfl,hb2⟩
 have HBN2:=hid (HBN.out.trans (hb2.mono (by have:=HBN.out.size;simpa using this)))
 have HI:=hid hi
 obtain⟨hk1,hk2⟩:=qQx hi
 have hpl:=(QY hi).1
 clear hB rt rp c0 c1 g1 hb2 hi HBN
 have HBN:=HBN2
 clear HBN2
 obtain⟨hB,rt,rp,c0,c1,g1⟩:=HX.out _ HBN.out
 obtain⟨u,HU⟩:∃ u,Hid (tgetT t path=u):=⟨_,rfl⟩
 have HUK:Hid (getK t path=u):=(YY HT.out path).symm.trans HU.out
 have hus:u.sz<=4000:=by rw[←HUK.out];exact Nat.le_trans (Q2 t path) hN
 have hue:=es_sz u
 go_wp2_with fail
 refine (Xt t path _ _ _ _ rt rp (by omega)).mono ?_
 rw[HU.out]
 rintro e w3 ⟨ve3,vk3,rfl,hrd3,hb3⟩
 obtain⟨Ar,nr,Br,mr,rfl,rfl⟩:=Qk hrd3
 have HBN2:=hid (HBN.out.trans (hb3.mono (by have:=HBN.out.size;simpa using this)))
 have hs3:=HBN2.out.size
 simp only[World.size_alloc]at hs3
 have HR3:=hid hrd3
 obtain⟨bq,offq,hA5,hbq,hcq⟩:=p3 (by rintro rfl;simp at hpl)
 subst hA5
 obtain⟨cs,⟨rfl,hkok⟩,_,hku⟩:=hcq (path.length-1) _ (ZA hpl)
 have HY:Hid (∀ W,Below (w3.heap.size+1) (w3.alloc (.cells #[.slice Ar u.es.length nr,.slice Br u.ks.length mr] 25)) W->(Below (w.heap.size+2) ((w.alloc (.cells #[.slice A3 t.es.length n3,.slice A4 t.ks.length n4] 25)).alloc (.cells #[.int .i64 0,.bool false,.int .i64 0,.slice none 0 0] 55)) W/\u.rd W W.heap.size (.slice Ar u.es.length nr) (.slice Br u.ks.length mr)/\W.cell? ⟨w3.heap.size,0,none⟩=some (.slice Ar u.es.length nr)/\W.cell? ⟨w3.heap.size,1,none⟩=some (.slice Br u.ks.length mr)/\W.cell? ⟨bq,offq+(path.length-1),none⟩=some (.string (lastK path)))):=fun W hW=>by
  have g:=(hW.block w3.heap.size (by omega)).trans (Qd rfl)
  have hB3:=((Below.refl _ w3).alloc (Nat.le_refl _) _).trans (hW.mono (by omega))
  have hBX:=HBN2.out.trans (hB3.mono (by omega))
  have hBW:=(HX.out W hBX).1
  exact⟨hBX,Zu HR3.out (fun b hb=>hb.2) hB3,Qa (i:=0) g,Qa (i:=1) g,(hBW.cell (p:=⟨bq,offq+(path.length-1),none⟩) hbq).trans (by simpa using hku 0 _ rfl)⟩
 clear hB rt rp c0 c1 g1 hb3 hrd3 HBN hku hcq p3
 obtain⟨hBy,ru,y0,y1,y2⟩:=HY.out _ (Below.refl _ _)
 go_wp2_with fail
 refine (Q6 (lastK path) _).mono ?_
 rcases (show kindB (lastK path)=1∨kindB (lastK path)=2∨kindB (lastK path)=3∨kindB (lastK path)=4∨kindB (lastK path)=5 by omega) with hk|hk|hk|hk|hk
 ·rw[hk]
  rintro e w4 ⟨rfl,hb4⟩
  have HBY:=hid (hb4.mono (show w3.heap.size+1<=_ by simp))
  have hs4:=HBY.out.size
  simp only[World.size_alloc]at hs4
  have HV:Hid (∀ W,Below (w4.heap.size+1) (w4.alloc (.cells #[.int .i64 1,.bool false,.int .i64 0,.slice none 0 0] 55)) W->(Below (w3.heap.size+1) (w3.alloc (.cells #[.slice Ar u.es.length nr,.slice Br u.ks.length mr] 25)) W/\W.heap[w4.heap.size]?=some (.cells #[.int .i64 1,.bool false,.int .i64 0,.slice none 0 0] 55 (0,0)))):=fun W hW=>
   ⟨HBY.out.trans ((((Below.refl _ w4).alloc (Nat.le_refl _) _).trans (hW.mono (by omega))).mono (by omega)),(hW.block w4.heap.size (by omega)).trans (Qd rfl)⟩
  have HVW:Hid (readV t path=viewK 1 u/\readI t path=0):=by
   have h0:readI t path=0:=by unfold readI;rw[HT.out,HI.out];rfl
   exact⟨by unfold readV;rw[if_pos h0,hk,HUK.out],h0⟩
  clear hBy ru y0 y1 y2 hb4 hk
  obtain⟨hBv,gv⟩:=HV.out _ (Below.refl _ _)
  obtain⟨hBy,ru,y0,y1,y2⟩:=HY.out _ hBv
  have v0:=Qa (i:=0) gv
  simp only[List.getElem?_toArray,List.getElem?_cons_zero]at v0
  go_wp2_with fail
  refine (zZ8 u _ _ _ ru).mono ?_
  rintro e w5 ⟨rfl,hb5⟩
  have HBV:=hid (hb5.mono (show w4.heap.size+1<=_ by simp))
  have hs5:=HBV.out.size
  simp only[World.size_alloc]at hs5
  clear hBv gv hBy ru y0 y1 y2 v0 hb5
  obtain⟨hBv,gv⟩:=HV.out _ HBV.out
  obtain⟨hBx,_,_,_,_⟩:=HY.out _ hBv
  obtain⟨hBW,_,_,_,_,gz⟩:=HX.out _ hBx
  have HGV:=hid gv
  have HGZ:=hid gz
  have HBW:=hid hBW
  obtain⟨v0,v1,v2,v3,u0,u1,u2,u3⟩:=bz4 gv
  obtain⟨k0,k1,k2,k3,z0,z1,z2,z3⟩:=bz4 gz
  have hne1:w4.heap.size≠w.heap.size+1:=by omega
  have hne2:w.heap.size+1≠w4.heap.size:=by omega
  clear hBv gv hBx hBW gz
  go_wp2_with fail
  have HG5:(w5.setCell ⟨w4.heap.size,1,none⟩ (.bool (onB u))).heap[w.heap.size+1]?=some (.cells #[.int .i64 0,.bool false,.int .i64 0,.slice none 0 0] 55 (0,0)):=(Below.heap_setCell _ _ _ _ (by simp;omega)).trans HGZ.out
  have hS5:(w5.setCell ⟨w4.heap.size,1,none⟩ (.bool (onB u))).heap.size=w5.heap.size:=by simp[World.setCell]
  obtain⟨r0,r1,r2,r3,hK,hS⟩:=box4 HG5 (.int .i64 1) (.bool (onB u)) (.int .i64 0) (.slice none 0 0)
  have hBB:=Qx (HBW.out.setCell (p:=⟨w4.heap.size,1,none⟩) (by simp;omega) (.bool (onB u))) (show w.heap.size<=w.heap.size+1 by omega) (.int .i64 1) (.bool (onB u)) (.int .i64 0) (.slice none 0 0)
  exact bodyPost_ret (v:=.tuple #[.agg #[.int .i64 1,.bool (onB u),.int .i64 0,.slice none 0 0],.int .i64 0]) (by simp[results,Tryz.results47,go_sem,r0,r1,r2,r3]<;>rfl) rfl ⟨_,by rw[HVW.out.1,HVW.out.2];rfl,by rw[HVW.out.1];exact SlA.nil,hBB⟩
 ·rw[hk]
  rintro e w4 ⟨rfl,hb4⟩
  have HBY:=hid (hb4.mono (show w3.heap.size+1<=_ by simp))
  have hs4:=HBY.out.size
  simp only[World.size_alloc]at hs4
  have HV:Hid (∀ W,Below (w4.heap.size+1) (w4.alloc (.cells #[.int .i64 2,.bool false,.int .i64 0,.slice none 0 0] 55)) W->(Below (w3.heap.size+1) (w3.alloc (.cells #[.slice Ar u.es.length nr,.slice Br u.ks.length mr] 25)) W/\W.heap[w4.heap.size]?=some (.cells #[.int .i64 2,.bool false,.int .i64 0,.slice none 0 0] 55 (0,0)))):=fun W hW=>
   ⟨HBY.out.trans ((((Below.refl _ w4).alloc (Nat.le_refl _) _).trans (hW.mono (by omega))).mono (by omega)),(hW.block w4.heap.size (by omega)).trans (Qd rfl)⟩
  have HVW:Hid (readV t path=viewK 2 u/\readI t path=0):=by
   have h0:readI t path=0:=by unfold readI;rw[HT.out,HI.out];rfl
   exact⟨by unfold readV;rw[if_pos h0,hk,HUK.out],h0⟩
  clear hBy ru y0 y1 y2 hb4 hk
  obtain⟨hBv,gv⟩:=HV.out _ (Below.refl _ _)
  obtain⟨hBy,ru,y0,y1,y2⟩:=HY.out _ hBv
  have v0:=Qa (i:=0) gv
  simp only[List.getElem?_toArray,List.getElem?_cons_zero]at v0
  go_wp2_with fail
  refine (qJ8 u _ _ _ ru (by omega)).mono ?_
  rintro e w5 ⟨vL,rfl,ho5,hb5⟩
  obtain⟨Av,nv,rfl⟩:=ho5.shape
  have HSL:=hid (OwnP.sla ho5 (by unfold Big;have:=Ka u;omega))
  have hbs5:w.heap.size+2<=w5.heap.size:=by have:=hb5.size;simp at this;omega
  simp only[World.size_alloc]at HSL
  clear ho5
  have HBV:=hid (hb5.mono (show w4.heap.size+1<=_ by simp))
  have hs5:=HBV.out.size
  simp only[World.size_alloc]at hs5
  clear hBv gv hBy ru y0 y1 y2 v0 hb5
  obtain⟨hBv,gv⟩:=HV.out _ HBV.out
  obtain⟨hBx,_,_,_,_⟩:=HY.out _ hBv
  obtain⟨hBW,_,_,_,_,gz⟩:=HX.out _ hBx
  have HGV:=hid gv
  have HGZ:=hid gz
  have HBW:=hid hBW
  obtain⟨v0,v1,v2,v3,u0,u1,u2,u3⟩:=bz4 gv
  obtain⟨k0,k1,k2,k3,z0,z1,z2,z3⟩:=bz4 gz
  have hne1:w4.heap.size≠w.heap.size+1:=by omega
  have hne2:w.heap.size+1≠w4.heap.size:=by omega
  clear hBv gv hBx hBW gz
  go_wp2_with fail
  have HG5:(w5.setCell ⟨w4.heap.size,3,none⟩ (.slice Av (QP u).length nv)).heap[w.heap.size+1]?=some (.cells #[.int .i64 0,.bool false,.int .i64 0,.slice none 0 0] 55 (0,0)):=(Below.heap_setCell _ _ _ _ (by simp;omega)).trans HGZ.out
  have hS5:(w5.setCell ⟨w4.heap.size,3,none⟩ (.slice Av (QP u).length nv)).heap.size=w5.heap.size:=by simp[World.setCell]
  obtain⟨r0,r1,r2,r3,hK,hS⟩:=box4 HG5 (.int .i64 2) (.bool false) (.int .i64 0) (.slice Av (QP u).length nv)
  have hBB:=Qx (HBW.out.setCell (p:=⟨w4.heap.size,3,none⟩) (by simp;omega) (.slice Av (QP u).length nv)) (show w.heap.size<=w.heap.size+1 by omega) (.int .i64 2) (.bool false) (.int .i64 0) (.slice Av (QP u).length nv)
  exact bodyPost_ret (v:=.tuple #[.agg #[.int .i64 2,.bool false,.int .i64 0,.slice Av (QP u).length nv],.int .i64 0]) (by simp[results,Tryz.results47,go_sem,r0,r1,r2,r3]<;>rfl) rfl ⟨_,by rw[HVW.out.1,HVW.out.2];rfl,by
   rw[HVW.out.1]
   exact HSL.out.up (fun b hb=>(hK b (by have:=hb.1;omega)).trans (Below.heap_setCell _ _ _ _ (by have:=hb.1;simp;omega))) (fun b hb=>⟨by have:=hb.1;omega,by rw[hS,hS5];exact hb.2.1⟩) (fun _ _ _ h=>h),hBB⟩
 ·rw[hk]
  rintro e w4 ⟨rfl,hb4⟩
  have HBY:=hid (hb4.mono (show w3.heap.size+1<=_ by simp))
  have hs4:=HBY.out.size
  simp only[World.size_alloc]at hs4
  have HV:Hid (∀ W,Below (w4.heap.size+1) (w4.alloc (.cells #[.int .i64 3,.bool false,.int .i64 0,.slice none 0 0] 55)) W->(Below (w3.heap.size+1) (w3.alloc (.cells #[.slice Ar u.es.length nr,.slice Br u.ks.length mr] 25)) W/\W.heap[w4.heap.size]?=some (.cells #[.int .i64 3,.bool false,.int .i64 0,.slice none 0 0] 55 (0,0)))):=fun W hW=>
   ⟨HBY.out.trans ((((Below.refl _ w4).alloc (Nat.le_refl _) _).trans (hW.mono (by omega))).mono (by omega)),(hW.block w4.heap.size (by omega)).trans (Qd rfl)⟩
  have HVW:Hid (readV t path=viewK 3 u/\readI t path=0):=by
   have h0:readI t path=0:=by unfold readI;rw[HT.out,HI.out];rfl
   exact⟨by unfold readV;rw[if_pos h0,hk,HUK.out],h0⟩
  clear hBy ru y0 y1 y2 hb4 hk
  obtain⟨hBv,gv⟩:=HV.out _ (Below.refl _ _)
  obtain⟨hBy,ru,y0,y1,y2⟩:=HY.out _ hBv
  have v0:=Qa (i:=0) gv
  simp only[List.getElem?_toArray,List.getElem?_cons_zero]at v0
  go_wp2_with fail
  refine (qKd u _ _ _ ru).mono ?_
  rintro e w5 ⟨rfl,hb5⟩
  have HBV:=hid (hb5.mono (show w4.heap.size+1<=_ by simp))
  have hs5:=HBV.out.size
  simp only[World.size_alloc]at hs5
  clear hBv gv hBy ru y0 y1 y2 v0 hb5
  obtain⟨hBv,gv⟩:=HV.out _ HBV.out
  obtain⟨hBx,_,_,_,_⟩:=HY.out _ hBv
  obtain⟨hBW,_,_,_,_,gz⟩:=HX.out _ hBx
  have HGV:=hid gv
  have HGZ:=hid gz
  have HBW:=hid hBW
  obtain⟨v0,v1,v2,v3,u0,u1,u2,u3⟩:=bz4 gv
  obtain⟨k0,k1,k2,k3,z0,z1,z2,z3⟩:=bz4 gz
  have hne1:w4.heap.size≠w.heap.size+1:=by omega
  have hne2:w.heap.size+1≠w4.heap.size:=by omega
  clear hBv gv hBx hBW gz
  go_wp2_with fail
  have HG5:(w5.setCell ⟨w4.heap.size,2,none⟩ (.int .i64 (valT u))).heap[w.heap.size+1]?=some (.cells #[.int .i64 0,.bool false,.int .i64 0,.slice none 0 0] 55 (0,0)):=(Below.heap_setCell _ _ _ _ (by simp;omega)).trans HGZ.out
  have hS5:(w5.setCell ⟨w4.heap.size,2,none⟩ (.int .i64 (valT u))).heap.size=w5.heap.size:=by simp[World.setCell]
  obtain⟨r0,r1,r2,r3,hK,hS⟩:=box4 HG5 (.int .i64 3) (.bool false) (.int .i64 (valT u)) (.slice none 0 0)
  have hBB:=Qx (HBW.out.setCell (p:=⟨w4.heap.size,2,none⟩) (by simp;omega) (.int .i64 (valT u))) (show w.heap.size<=w.heap.size+1 by omega) (.int .i64 3) (.bool false) (.int .i64 (valT u)) (.slice none 0 0)
  exact bodyPost_ret (v:=.tuple #[.agg #[.int .i64 3,.bool false,.int .i64 (valT u),.slice none 0 0],.int .i64 0]) (by simp[results,Tryz.results47,go_sem,r0,r1,r2,r3]<;>rfl) rfl ⟨_,by rw[HVW.out.1,HVW.out.2];rfl,by rw[HVW.out.1];exact SlA.nil,hBB⟩
 ·rw[hk]
  rintro e w4 ⟨rfl,hb4⟩
  have HBY:=hid (hb4.mono (show w3.heap.size+1<=_ by simp))
  have hs4:=HBY.out.size
  simp only[World.size_alloc]at hs4
  have HV:Hid (∀ W,Below (w4.heap.size+1) (w4.alloc (.cells #[.int .i64 4,.bool false,.int .i64 0,.slice none 0 0] 55)) W->(Below (w3.heap.size+1) (w3.alloc (.cells #[.slice Ar u.es.length nr,.slice Br u.ks.length mr] 25)) W/\W.heap[w4.heap.size]?=some (.cells #[.int .i64 4,.bool false,.int .i64 0,.slice none 0 0] 55 (0,0)))):=fun W hW=>
   ⟨HBY.out.trans ((((Below.refl _ w4).alloc (Nat.le_refl _) _).trans (hW.mono (by omega))).mono (by omega)),(hW.block w4.heap.size (by omega)).trans (Qd rfl)⟩
  have HVW:Hid (readV t path=viewK 4 u/\readI t path=0):=by
   have h0:readI t path=0:=by unfold readI;rw[HT.out,HI.out];rfl
   exact⟨by unfold readV;rw[if_pos h0,hk,HUK.out],h0⟩
  clear hBy ru y0 y1 y2 hb4 hk
  obtain⟨hBv,gv⟩:=HV.out _ (Below.refl _ _)
  obtain⟨hBy,ru,y0,y1,y2⟩:=HY.out _ hBv
  have v0:=Qa (i:=0) gv
  simp only[List.getElem?_toArray,List.getElem?_cons_zero]at v0
  go_wp2_with fail
  refine (qVm u _ _ _ ru (by omega)).mono ?_
  rintro e w5 ⟨vL,rfl,ho5,hb5⟩
  obtain⟨Av,nv,rfl⟩:=ho5.shape
  have HSL:=hid (OwnP.sla ho5 (by unfold Big;have:=qY5 u;omega))
  have hbs5:w.heap.size+2<=w5.heap.size:=by have:=hb5.size;simp at this;omega
  simp only[World.size_alloc]at HSL
  clear ho5
  have HBV:=hid (hb5.mono (show w4.heap.size+1<=_ by simp))
  have hs5:=HBV.out.size
  simp only[World.size_alloc]at hs5
  clear hBv gv hBy ru y0 y1 y2 v0 hb5
  obtain⟨hBv,gv⟩:=HV.out _ HBV.out
  obtain⟨hBx,_,_,_,_⟩:=HY.out _ hBv
  obtain⟨hBW,_,_,_,_,gz⟩:=HX.out _ hBx
  have HGV:=hid gv
  have HGZ:=hid gz
  have HBW:=hid hBW
  obtain⟨v0,v1,v2,v3,u0,u1,u2,u3⟩:=bz4 gv
  obtain⟨k0,k1,k2,k3,z0,z1,z2,z3⟩:=bz4 gz
  have hne1:w4.heap.size≠w.heap.size+1:=by omega
  have hne2:w.heap.size+1≠w4.heap.size:=by omega
  clear hBv gv hBx hBW gz
  go_wp2_with fail
  have HG5:(w5.setCell ⟨w4.heap.size,3,none⟩ (.slice Av (Q1 u).length nv)).heap[w.heap.size+1]?=some (.cells #[.int .i64 0,.bool false,.int .i64 0,.slice none 0 0] 55 (0,0)):=(Below.heap_setCell _ _ _ _ (by simp;omega)).trans HGZ.out
  have hS5:(w5.setCell ⟨w4.heap.size,3,none⟩ (.slice Av (Q1 u).length nv)).heap.size=w5.heap.size:=by simp[World.setCell]
  obtain⟨r0,r1,r2,r3,hK,hS⟩:=box4 HG5 (.int .i64 4) (.bool false) (.int .i64 0) (.slice Av (Q1 u).length nv)
  have hBB:=Qx (HBW.out.setCell (p:=⟨w4.heap.size,3,none⟩) (by simp;omega) (.slice Av (Q1 u).length nv)) (show w.heap.size<=w.heap.size+1 by omega) (.int .i64 4) (.bool false) (.int .i64 0) (.slice Av (Q1 u).length nv)
  exact bodyPost_ret (v:=.tuple #[.agg #[.int .i64 4,.bool false,.int .i64 0,.slice Av (Q1 u).length nv],.int .i64 0]) (by simp[results,Tryz.results47,go_sem,r0,r1,r2,r3]<;>rfl) rfl ⟨_,by rw[HVW.out.1,HVW.out.2];rfl,by
   rw[HVW.out.1]
   exact HSL.out.up (fun b hb=>(hK b (by have:=hb.1;omega)).trans (Below.heap_setCell _ _ _ _ (by have:=hb.1;simp;omega))) (fun b hb=>⟨by have:=hb.1;omega,by rw[hS,hS5];exact hb.2.1⟩) (fun _ _ _ h=>h),hBB⟩
 ·rw[hk]
  rintro e w4 ⟨rfl,hb4⟩
  have HBY:=hid (hb4.mono (show w3.heap.size+1<=_ by simp))
  have hs4:=HBY.out.size
  simp only[World.size_alloc]at hs4
  have HV:Hid (∀ W,Below (w4.heap.size+1) (w4.alloc (.cells #[.int .i64 5,.bool false,.int .i64 0,.slice none 0 0] 55)) W->(Below (w3.heap.size+1) (w3.alloc (.cells #[.slice Ar u.es.length nr,.slice Br u.ks.length mr] 25)) W/\W.heap[w4.heap.size]?=some (.cells #[.int .i64 5,.bool false,.int .i64 0,.slice none 0 0] 55 (0,0)))):=fun W hW=>
   ⟨HBY.out.trans ((((Below.refl _ w4).alloc (Nat.le_refl _) _).trans (hW.mono (by omega))).mono (by omega)),(hW.block w4.heap.size (by omega)).trans (Qd rfl)⟩
  have HVW:Hid (readV t path=viewK 5 u/\readI t path=0):=by
   have h0:readI t path=0:=by unfold readI;rw[HT.out,HI.out];rfl
   exact⟨by unfold readV;rw[if_pos h0,hk,HUK.out],h0⟩
  clear hBy ru y0 y1 y2 hb4 hk
  obtain⟨hBv,gv⟩:=HV.out _ (Below.refl _ _)
  obtain⟨hBy,ru,y0,y1,y2⟩:=HY.out _ hBv
  have v0:=Qa (i:=0) gv
  simp only[List.getElem?_toArray,List.getElem?_cons_zero]at v0
  go_wp2_with fail
  refine (qVl u _ _ _ ru (by omega)).mono ?_
  rintro e w5 ⟨vL,rfl,ho5,hb5⟩
  obtain⟨Av,nv,rfl⟩:=ho5.shape
  have HSL:=hid (OwnP.sla ho5 (by unfold Big;have:=qY6 u;omega))
  have hbs5:w.heap.size+2<=w5.heap.size:=by have:=hb5.size;simp at this;omega
  simp only[World.size_alloc]at HSL
  clear ho5
  have HBV:=hid (hb5.mono (show w4.heap.size+1<=_ by simp))
  have hs5:=HBV.out.size
  simp only[World.size_alloc]at hs5
  clear hBv gv hBy ru y0 y1 y2 v0 hb5
  obtain⟨hBv,gv⟩:=HV.out _ HBV.out
  obtain⟨hBx,_,_,_,_⟩:=HY.out _ hBv
  obtain⟨hBW,_,_,_,_,gz⟩:=HX.out _ hBx
  have HGV:=hid gv
  have HGZ:=hid gz
  have HBW:=hid hBW
  obtain⟨v0,v1,v2,v3,u0,u1,u2,u3⟩:=bz4 gv
  obtain⟨k0,k1,k2,k3,z0,z1,z2,z3⟩:=bz4 gz
  have hne1:w4.heap.size≠w.heap.size+1:=by omega
  have hne2:w.heap.size+1≠w4.heap.size:=by omega
  clear hBv gv hBx hBW gz
  go_wp2_with fail
  have HG5:(w5.setCell ⟨w4.heap.size,3,none⟩ (.slice Av (Q8 u).length nv)).heap[w.heap.size+1]?=some (.cells #[.int .i64 0,.bool false,.int .i64 0,.slice none 0 0] 55 (0,0)):=(Below.heap_setCell _ _ _ _ (by simp;omega)).trans HGZ.out
  have hS5:(w5.setCell ⟨w4.heap.size,3,none⟩ (.slice Av (Q8 u).length nv)).heap.size=w5.heap.size:=by simp[World.setCell]
  obtain⟨r0,r1,r2,r3,hK,hS⟩:=box4 HG5 (.int .i64 5) (.bool false) (.int .i64 0) (.slice Av (Q8 u).length nv)
  have hBB:=Qx (HBW.out.setCell (p:=⟨w4.heap.size,3,none⟩) (by simp;omega) (.slice Av (Q8 u).length nv)) (show w.heap.size<=w.heap.size+1 by omega) (.int .i64 5) (.bool false) (.int .i64 0) (.slice Av (Q8 u).length nv)
  exact bodyPost_ret (v:=.tuple #[.agg #[.int .i64 5,.bool false,.int .i64 0,.slice Av (Q8 u).length nv],.int .i64 0]) (by simp[results,Tryz.results47,go_sem,r0,r1,r2,r3]<;>rfl) rfl ⟨_,by rw[HVW.out.1,HVW.out.2];rfl,by
   rw[HVW.out.1]
   exact HSL.out.up (fun b hb=>(hK b (by have:=hb.1;omega)).trans (Below.heap_setCell _ _ _ _ (by have:=hb.1;simp;omega))) (fun b hb=>⟨by have:=hb.1;omega,by rw[hS,hS5];exact hb.2.1⟩) (fun _ _ _ h=>h),hBB⟩
section
variable {w:World}{G N:Kn}{ops:List Opr}{g:Nat}{okp:Nat->Prop}{v:Nat->V3}{vo:Value}
theorem Vb (path:List ByteArray)(vp:Value)(h:TxB w g okp v vo G N ops)(hp:SlP w w.heap.size 1 StE vp path)(hN:N.1.sz<=4000) :
  Calls Tryz.prog 21 #[.pointer (some ⟨g,0,none⟩),vp] w (RetVE w (readV N.1 path) (readI N.1 path)):=by
 have HP:=hid hp
 obtain⟨A5,c5,rfl,_⟩:=hp
 have HST:=hid h
 have hgl:=h.lt
 obtain⟨a1,b1,c1,hv1⟩:∃ a b c,v 1=(a,b,c):=⟨_,_,_,rfl⟩
 have hrN:=h.rdN
 rw[hv1]at hrN
 obtain⟨An,nn1,Bn,mn,e1,e2⟩:=Qj hrN
 simp only at e1 e2
 subst e1;subst e2
 have HV1:=hid hv1
 have HX:Hid (∀ W,Below (w.heap.size+1) (w.alloc (.cells #[.int .i64 0,.bool false,.int .i64 0,.slice none 0 0] 55)) W->(Below w.heap.size w W/\W.heap[w.heap.size]?=some (.cells #[.int .i64 0,.bool false,.int .i64 0,.slice none 0 0] 55 (0,0))/\N.1.rd W W.heap.size (.slice An N.1.es.length nn1) (.slice Bn N.1.ks.length mn)/\SlP W W.heap.size 1 StE (.slice A5 path.length c5) path/\W.cell? ⟨g,3,none⟩=some (.slice An N.1.es.length nn1)/\W.cell? ⟨g,4,none⟩=some (.slice Bn N.1.ks.length mn))):=fun W hW=>by
  have hB:Below w.heap.size w W:=((Below.refl _ w).alloc (Nat.le_refl _) _).trans (hW.mono (by omega))
  have hs:=HST.out.grow hB
  have r1:=hs.rdN
  obtain⟨_,_,_,d3,d4,_⟩:=hs.cells
  rw[HV1.out]at r1 d3 d4
  exact⟨hB,(hW.block _ (by omega)).trans (Qd rfl),r1,HP.out.imp hB hB.size fun _ _ _ h=>h,d3,d4⟩
 obtain⟨V,HV⟩:∃ V,Hid (readV N.1 path=V):=⟨_,rfl⟩
 obtain⟨I,HI⟩:∃ V,Hid (readI N.1 path=V):=⟨_,rfl⟩
 rw[HV.out,HI.out]
 clear h hv1 hrN
 go_enter Tryz.func21,Tryz.ntmps21
 obtain⟨hB,_,r1,r2,y0,y1⟩:=HX.out _ (Below.refl _ _)
 have hgw:g≠w.heap.size:=by omega
 go_wp2_with fail
 refine (qKg N.1 path _ _ _ _ r1 r2 hN).mono ?_
 rw[HV.out,HI.out]
 obtain⟨vk,von,vn,vls⟩:=V
 rintro e w6 ⟨vl6,rfl,hsl6,hb6⟩
 obtain⟨A6,n6,hv6⟩:=hsl6.shape
 subst hv6
 have hB6:Below (w.heap.size+1) (w.alloc (.cells #[.int .i64 0,.bool false,.int .i64 0,.slice none 0 0] 55)) w6:=hb6.mono (by simp)
 have HB6:=hid hB6
 have HSL6:=hid hsl6
 obtain⟨hBw,hG,_⟩:=HX.out _ hB6
 have HG:=hid hG
 have HBW:=hid hBw
 obtain⟨k0,k1,k2,k3,z0,z1,z2,z3⟩:=bz4 hG
 have hlt6:=lt_of_block hG
 clear hG hBw hB6 hb6 hsl6 hB r1 r2 y0 y1
 go_wp2_with fail
 obtain⟨r0,r1,r2,r3,hK,hS⟩:=box4 HG.out (.int .i64 vk) (.bool von) (.int .i64 vn) (.slice A6 vls.length n6)
 have hBW:=Qx HBW.out (show w.heap.size<=w.heap.size from Nat.le_refl _) (.int .i64 vk) (.bool von) (.int .i64 vn) (.slice A6 vls.length n6)
 exact bodyPost_ret (v:=.tuple #[.agg #[.int .i64 vk,.bool von,.int .i64 vn,.slice A6 vls.length n6],.int .i64 I]) (by simp[results,Tryz.results21,go_sem,r0,r1,r2,r3]<;>rfl) rfl ⟨_,rfl,HSL6.out.up (fun b hb=>hK b (by have:=hb.1;simp only[World.size_alloc]at this;omega)) (fun b hb=>⟨by have:=hb.1;simp only[World.size_alloc]at this;omega,by rw[hS];exact hb.2⟩) (fun _ _ _ h=>h),hBW⟩
theorem qQ4 (h:TxB w g okp v vo G N ops)(hR:caR G.1 G.2=true)(hN:G.1.sz<=4000)(hN':G.2.length<=20000) :
  Calls Tryz.prog 25 #[.pointer (some ⟨g,0,none⟩)] w (RetC w G.1 G.2):=by
 have HST:=hid h
 have hgl:=h.lt
 obtain⟨a1,b1,c1,hv1⟩:∃ a b c,v 0=(a,b,c):=⟨_,_,_,rfl⟩
 have hrN:=h.rdG
 have hsN:=h.slG
 rw[hv1]at hrN hsN
 obtain⟨An,nn1,Bn,mn,e1,e2⟩:=Qj hrN
 obtain⟨Cn,kn,e3,_⟩:=hsN
 simp only at e1 e2 e3
 subst e1;subst e2;subst e3
 have HV1:=hid hv1
 have HX:Hid (∀ W,Below (w.heap.size+1) (w.alloc (.cells #[.slice none 0 0,.slice none 0 0,.slice none 0 0] 29)) W->(Below w.heap.size w W/\W.heap[w.heap.size]?=some (.cells #[.slice none 0 0,.slice none 0 0,.slice none 0 0] 29 (0,0))/\G.1.rd W W.heap.size (.slice An G.1.es.length nn1) (.slice Bn G.1.ks.length mn)/\SlP W W.heap.size 3 SpE (.slice Cn G.2.length kn) G.2/\W.cell? ⟨g,0,none⟩=some (.slice An G.1.es.length nn1)/\W.cell? ⟨g,1,none⟩=some (.slice Bn G.1.ks.length mn)/\W.cell? ⟨g,2,none⟩=some (.slice Cn G.2.length kn))):=fun W hW=>by
  have hB:Below w.heap.size w W:=((Below.refl _ w).alloc (Nat.le_refl _) _).trans (hW.mono (by omega))
  have hs:=HST.out.grow hB
  have r1:=hs.rdG
  have r2:=hs.slG
  obtain⟨d3,d4,d5,_⟩:=hs.cells
  rw[HV1.out]at r1 r2 d3 d4 d5
  exact⟨hB,(hW.block _ (by omega)).trans (Qd rfl),r1,r2,d3,d4,d5⟩
 have HE1:Hid (cloT G.1 G.2=G.1):=by unfold Hid cloT;rw[hR];rfl
 have HE2:Hid (cloC G.1 G.2=G.2):=by unfold Hid cloC;rw[hR];rfl
 clear h hv1 hrN hR
 go_enter Tryz.func25,Tryz.ntmps25
 obtain⟨hB,_,r1,r2,y0,y1,y2⟩:=HX.out _ (Below.refl _ _)
 have hgw:g≠w.heap.size:=by omega
 go_wp2_with fail
 refine (Jj G.1 G.2 _ _ _ _ r1 r2 hN hN').mono ?_
 rw[HE1.out,HE2.out]
 rintro e w6 ⟨xe6,xk6,xc6,rfl,hrd6,hsl6,hb6⟩
 obtain⟨A6,n6,A7,n7,hv6,hv7⟩:=Qk hrd6
 subst hv6;subst hv7
 obtain⟨A8,n8,hv8⟩:=hsl6.shape
 subst hv8
 have hB6:Below (w.heap.size+1) (w.alloc (.cells #[.slice none 0 0,.slice none 0 0,.slice none 0 0] 29)) w6:=hb6.mono (by simp)
 have HSL6:=hid hsl6
 have HRD6:=hid hrd6
 obtain⟨hBw,hG,_⟩:=HX.out _ hB6
 have HG:=hid hG
 have HBW:=hid hBw
 obtain⟨k0,k1,k2,z0,z1,z2⟩:=bz3 hG
 have hlt6:=lt_of_block hG
 clear hG hBw hB6 hb6 hsl6 hrd6 hB r1 r2 y0 y1 y2
 go_wp2_with fail
 obtain⟨r0,r1,r2,hK,hS⟩:=box3 HG.out (.slice A6 G.1.es.length n6) (.slice A7 G.1.ks.length n7) (.slice A8 G.2.length n8)
 have hBW:Below w.heap.size w (((w6.setCell ⟨w.heap.size,0,none⟩ (.slice A6 G.1.es.length n6)).setCell ⟨w.heap.size,1,none⟩ (.slice A7 G.1.ks.length n7)).setCell ⟨w.heap.size,2,none⟩ (.slice A8 G.2.length n8)):=((HBW.out.setCell (Nat.le_refl _) _).setCell (Nat.le_refl _) _).setCell (Nat.le_refl _) _
 exact bodyPost_ret (v:=.agg #[.slice A6 G.1.es.length n6,.slice A7 G.1.ks.length n7,.slice A8 G.2.length n8]) (by simp[results,Tryz.results25,go_sem,r0,r1,r2]) rfl ⟨_,_,_,rfl,Qq (fun b hb=>hK b (by have:=hb.1;simp only[World.size_alloc]at this;omega)) (fun b hb=>⟨by have:=hb.1;simp only[World.size_alloc]at this;omega,by rw[hS];exact hb.2⟩) _ _ _ HRD6.out,HSL6.out.up (fun b hb=>hK b (by have:=hb.1;simp only[World.size_alloc]at this;omega)) (fun b hb=>⟨by have:=hb.1;simp only[World.size_alloc]at this;omega,by rw[hS];exact hb.2⟩) (fun _ _ _ h=>h),hBW⟩
end
theorem zYq {w5:World}{ok okp:Nat->Prop}{vo:Value}{A:Option Addr}{n:Nat}{o:Opr}(hs:SlA w5 ok 1 StE (.slice A o.path.length n) o.path)(ho:o.Ok)(h:∀ b,ok b->okp b/\b<w5.heap.size/\vo.ownBlock≠some b) :
  SlP (w5.alloc (.cells #[.slice A o.path.length n,.int .i64 o.act,.string o.s,.int .i64 o.n] 65)) (w5.alloc (.cells #[.slice A o.path.length n,.int .i64 o.act,.string o.s,.int .i64 o.n] 65)).heap.size 4 (OpA (w5.alloc (.cells #[.slice A o.path.length n,.int .i64 o.act,.string o.s,.int .i64 o.n] 65)) (fun b=>okp b/\b<(w5.alloc (.cells #[.slice A o.path.length n,.int .i64 o.act,.string o.s,.int .i64 o.n] 65)).heap.size/\vo.ownBlock≠some b)) (.slice (some ⟨w5.heap.size,0,none⟩) 1 1) [o]:=by
 refine SlP.oneB (w:=w5) ⟨_,_,rfl,?_,ho⟩ rfl _ rfl (by simp)
 exact hs.up (fun b hb=>Qg (h b hb).2.1) (fun b hb=>⟨(h b hb).1,by rw[World.size_alloc];exact Nat.lt_succ_of_lt (h b hb).2.1,(h b hb).2.2⟩) fun _ _ _ h=>h
def zYr (w:World)(l:List Opr)(e:Ending)(w':World):Prop:=
 ∃ v,e=.returned v/\OwnD w' w.heap.size 65 4 OpA (fun b=>w.heap.size<=b) v l/\Below w.heap.size w w'
theorem qUc {w:World}{G N:Kn}{ops:List Opr}{g:Nat}{okp:Nat->Prop}{v:Nat->V3}{vo:Value}(h:TxB w g okp v vo G N ops)(hl:ops.length<=1000)(hpl:∀ x∈ops,x.path.length<=900000) :
  Calls Tryz.prog 23 #[.pointer (some ⟨g,0,none⟩)] w (zYr w ops):=by
 have HST:=hid h
 have hgl:=h.lt
 have HL0:=hid (h.opl (by unfold Big;omega))
 obtain⟨Ao,no,hvo⟩:=OwnP.shape h.own
 subst hvo
 have c6:=h.cells.2.2.2.2.2.2
 have HPL:=hid hpl
 clear h hpl
 go_enter Tryz.func23,Tryz.ntmps23
 go_wp2_with fail
 go_loopw [3,13] (fun v i wr=>∃ k:Nat,k<=ops.length/\i=.int .i64 k/\OwnD wr w.heap.size 65 4 OpA (fun b=>w.heap.size<=b) v (ops.take k)/\Below w.heap.size w wr) (fun _ i _=>ops.length-(intOf i).toNat)
 case atStart=>exact⟨0,Nat.zero_le _,rfl,OwnD.nil,Below.refl _ _⟩
 case round=>
  clear c6
  obtain⟨k,hk,rfl,hown,hb⟩:=hrel
  have hsz:=hb.size
  by_cases hlt:k<ops.length
  ·obtain⟨x,hx⟩:∃ x,ops[k]?=some x:=⟨_,List.getElem?_eq_getElem hlt⟩
   obtain⟨b,off,A5,c5,rfl,hbB,hpx,hox,hu⟩:=OpL.at HL0.out hx
   obtain⟨e0,e1,e2,e3⟩:=hu wr (hb.block b hbB)
   have HT:Hid (ops.take (k+1)=ops.take k++[x]):=by unfold Hid;rw[List.take_add_one,hx];rfl
   have HPX:=hid (HPL.out x (List.mem_of_getElem? hx))
   have HB:=hid hb
   have HP:Hid (∀ W,Below wr.heap.size wr W->SlP W W.heap.size 1 StE (.slice A5 x.path.length c5) x.path):=fun W hW=>(hpx.imp hb hsz fun _ _ _ h=>h).imp hW hW.size fun _ _ _ h=>h
   have HOX:=hid hox
   have HOWN:=hid hown
   have HLT:Hid ((ops.take k).length + [x].length<=Few):=by unfold Hid Few;simp;omega
   clear hu hpx hx hox hown
   go_wp2_with fail
   refine (Xe x _ _ (HP.out _ (by go_grown)) HPX.out).mono ?_
   rintro e w1 ⟨vp1,rfl,hsl1,hb1⟩
   obtain⟨A6,c6,hv6⟩:=hsl1.shape
   subst hv6
   have hB1:Below wr.heap.size wr w1:=((Below.refl _ wr).alloc (Nat.le_refl _) _).trans (hb1.mono (by simp))
   have HB1:=hid hB1
   have hs1:=hB1.size
   have HSL:=hid hsl1
   have HRW:=hid (fun (vo:Value) (hvo:∀ b,vo.ownBlock=some b->b<wr.heap.size)=>zYq (okp:=fun b=>w.heap.size<=b) (vo:=vo) (o:=x) HSL.out HOX.out fun b hb=>⟨by have:=hb.1;simp only[World.size_alloc]at this;omega,hb.2,fun e=>by have:=hvo b e;have:=hb.1;simp only[World.size_alloc]at this;omega⟩)
   clear hb1 hB1 hsl1
   go_wp2_with (at_builtin;go_loud ((with_reducible refine Zc rfl (.tmp 17) (.tmp 20) _ rfl OpA.mon eiOp (by decide) (by decide) rfl (HOWN.out.grow OpA.mon (HB1.out.alloc hs1 _)) rfl (HRW.out _ fun b e=>(HOWN.out.lt b e).2) HLT.out (by rw[World.size_alloc];omega) ?_);intro v2 w2 hown2 hb2 _ _))
   go_roundw
   case rel=>exact⟨k+1,by omega,by go_num,by rw[HT.out];exact hown2,HB.out.trans (((HB1.out.alloc hs1 _).mono (by omega)).trans hb2)⟩
   case measure=>simp[intOf];omega
  ·have hke:k=ops.length:=by omega
   subst hke
   rw[List.take_of_length_le (Nat.le_refl _)]at hown
   go_wp2_with fail
   go_ret
   exact⟨_,rfl,hown,hb⟩
def NoKd (x:Int)(n:Nat):Prop:=(0<n->(x==102)=false)/\(1<n->(x==115)=false)/\(2<n->(x==99)=false)/\(3<n->(x==114)=false)/\(4<n->(x==109)=false)
theorem let0:((({ data:=#[102,115,99,114,109] }:ByteArray)[0]'(by decide)).toNat:Int)=102:=rfl
theorem let1:((({ data:=#[102,115,99,114,109] }:ByteArray)[1]'(by decide)).toNat:Int)=115:=rfl
theorem let2:((({ data:=#[102,115,99,114,109] }:ByteArray)[2]'(by decide)).toNat:Int)=99:=rfl
theorem let3:((({ data:=#[102,115,99,114,109] }:ByteArray)[3]'(by decide)).toNat:Int)=114:=rfl
theorem let4:((({ data:=#[102,115,99,114,109] }:ByteArray)[4]'(by decide)).toNat:Int)=109:=rfl
theorem Ys (k:ByteArray)(w:World)(hk:k.size<=Big) :
  Calls Tryz.prog 51 #[.string k] w fun e w'=>e=.returned (.int .i64 (kindB k))/\Below w.heap.size w w':=by
 unfold Big at hk
 by_cases h0:0<k.size
 ·have HK:=hid (qQ3 h0)
  go_enter Tryz.func51,Tryz.ntmps51
  go_wp2_with fail
  go_loopw [7] (fun i wr=>∃ n:Nat,n<=5/\i=.int .i64 n/\Hid (NoKd (k[0].toNat:Int) n)/\Below w.heap.size w wr) (fun i _=>5-(intOf i).toNat)
  case atStart=>exact⟨0,by omega,rfl,⟨fun h=>by omega,fun h=>by omega,fun h=>by omega,fun h=>by omega,fun h=>by omega⟩,Below.refl _ _⟩
  case round=>
   obtain⟨n,hn,rfl,hno,hb⟩:=hrel
   rcases (show n=0∨n=1∨n=2∨n=3∨n=4∨n=5 by omega) with rfl|rfl|rfl|rfl|rfl|rfl
   ·skip
    go_upto_region 5 with (fail)
    refine Qc wr.heap.size (by kernel_rfl) (by kernel_rfl) ?_
    repeat (go_big_quiet_step (fail))
    refine wpQuiet_nil ?_
    intro wq hbq
    have hB:=hb.trans (hbq.mono hb.size)
    clear hbq
    simp only[let0]
    go_wp2_with fail
    all_goals first
     |(refine⟨⟨1,by omega,by go_num,⟨fun _=>by assumption,fun h=>(by omega),fun h=>(by omega),fun h=>(by omega),fun h=>(by omega)⟩,hB⟩,?_⟩;simp[intOf];done)
     |(go_ret;exact⟨Qn (by rw[HK.out];simp_all),hB⟩)
     |trace_state
   ·have k0:=hno.out.1 (by omega)
    have HN0:=hid k0
    go_upto_region 5 with (fail)
    refine Qc wr.heap.size (by kernel_rfl) (by kernel_rfl) ?_
    repeat (go_big_quiet_step (fail))
    refine wpQuiet_nil ?_
    intro wq hbq
    have hB:=hb.trans (hbq.mono hb.size)
    clear hbq
    simp only[let1]
    go_wp2_with fail
    all_goals first
     |(refine⟨⟨2,by omega,by go_num,⟨fun _=>HN0.out,fun _=>by assumption,fun h=>(by omega),fun h=>(by omega),fun h=>(by omega)⟩,hB⟩,?_⟩;simp[intOf];done)
     |(go_ret;exact⟨Qn (by rw[HK.out];simp_all),hB⟩)
     |trace_state
   ·have k0:=hno.out.1 (by omega)
    have HN0:=hid k0
    have k1:=hno.out.2.1 (by omega)
    have HN1:=hid k1
    go_upto_region 5 with (fail)
    refine Qc wr.heap.size (by kernel_rfl) (by kernel_rfl) ?_
    repeat (go_big_quiet_step (fail))
    refine wpQuiet_nil ?_
    intro wq hbq
    have hB:=hb.trans (hbq.mono hb.size)
    clear hbq
    simp only[let2]
    go_wp2_with fail
    all_goals first
     |(refine⟨⟨3,by omega,by go_num,⟨fun _=>HN0.out,fun _=>HN1.out,fun _=>by assumption,fun h=>(by omega),fun h=>(by omega)⟩,hB⟩,?_⟩;simp[intOf];done)
     |(go_ret;exact⟨Qn (by rw[HK.out];simp_all),hB⟩)
     |trace_state
   ·have k0:=hno.out.1 (by omega)
    have HN0:=hid k0
    have k1:=hno.out.2.1 (by omega)
    have HN1:=hid k1
    have k2:=hno.out.2.2.1 (by omega)
    have HN2:=hid k2
    go_upto_region 5 with (fail)
    refine Qc wr.heap.size (by kernel_rfl) (by kernel_rfl) ?_
    repeat (go_big_quiet_step (fail))
    refine wpQuiet_nil ?_
    intro wq hbq
    have hB:=hb.trans (hbq.mono hb.size)
    clear hbq
    simp only[let3]
    go_wp2_with fail
    all_goals first
     |(refine⟨⟨4,by omega,by go_num,⟨fun _=>HN0.out,fun _=>HN1.out,fun _=>HN2.out,fun _=>by assumption,fun h=>(by omega)⟩,hB⟩,?_⟩;simp[intOf];done)
     |(go_ret;exact⟨Qn (by rw[HK.out];simp_all),hB⟩)
     |trace_state
   ·have k0:=hno.out.1 (by omega)
    have HN0:=hid k0
    have k1:=hno.out.2.1 (by omega)
    have HN1:=hid k1
    have k2:=hno.out.2.2.1 (by omega)
    have HN2:=hid k2
    have k3:=hno.out.2.2.2.1 (by omega)
    have HN3:=hid k3
    go_upto_region 5 with (fail)
    refine Qc wr.heap.size (by kernel_rfl) (by kernel_rfl) ?_
    repeat (go_big_quiet_step (fail))
    refine wpQuiet_nil ?_
    intro wq hbq
    have hB:=hb.trans (hbq.mono hb.size)
    clear hbq
    simp only[let4]
    go_wp2_with fail
    all_goals first
     |(refine⟨⟨5,by omega,by go_num,⟨fun _=>HN0.out,fun _=>HN1.out,fun _=>HN2.out,fun _=>HN3.out,fun _=>by assumption⟩,hB⟩,?_⟩;simp[intOf];done)
     |(go_ret;exact⟨Qn (by rw[HK.out];simp_all),hB⟩)
     |trace_state
   ·have k0:=hno.out.1 (by omega)
    have HN0:=hid k0
    clear k0
    have k1:=hno.out.2.1 (by omega)
    have HN1:=hid k1
    clear k1
    have k2:=hno.out.2.2.1 (by omega)
    have HN2:=hid k2
    clear k2
    have k3:=hno.out.2.2.2.1 (by omega)
    have HN3:=hid k3
    clear k3
    have k4:=hno.out.2.2.2.2 (by omega)
    have HN4:=hid k4
    clear k4
    go_wp2_with fail
    go_ret
    exact⟨Qn (by rw[HK.out,HN0.out,HN1.out,HN2.out,HN3.out,HN4.out];rfl),hb⟩
 ·rw[qY3 h0]
  have h0':k.size=0:=by omega
  go_enter Tryz.func51,Tryz.ntmps51
  go_wp2_with fail
  go_loopw [7] (fun i wr=>∃ n:Nat,n<=5/\i=.int .i64 n/\Below w.heap.size w wr) (fun i _=>5-(intOf i).toNat)
  case atStart=>exact⟨0,by omega,rfl,Below.refl _ _⟩
  case round=>
   obtain⟨n,hn,rfl,hb⟩:=hrel
   by_cases h5:n<5
   ·go_upto_region 5 with (fail)
    refine Qc wr.heap.size (by kernel_rfl) (by kernel_rfl) ?_
    repeat (go_big_quiet_step (fail))
    refine wpQuiet_nil ?_
    intro wq hbq
    have hB:=hb.trans (hbq.mono hb.size)
    clear hbq
    go_wp2_with fail
    all_goals (refine⟨⟨n+1,by omega,by go_num,hB⟩,?_⟩;simp[intOf];omega)
   ·obtain rfl:n=5:=by omega
    go_wp2_with fail
    go_ret
    exact⟨rfl,hb⟩
theorem zZy {α:Type}{f:α->Bool}{l:List α}(h:∀ (j:Nat) x,j<l.length->l[j]?=some x->f x=false):l.any f=false:=by
 rw[List.any_eq_false]
 intro x hx
 obtain⟨j,hj⟩:=List.getElem?_of_mem hx
 rw[h j x (List.getElem?_eq_some_iff.1 hj).1 hj];simp
theorem qZ9 {α:Type}{f:α->Bool}{l:List α}{j:Nat}{x:α}(h:l[j]?=some x)(hf:f x=true):l.any f=true:=List.any_eq_true.2 ⟨x,List.mem_of_getElem? h,hf⟩
theorem Kp (p:List ByteArray)(vp:Value)(w:World)(h:SlP w w.heap.size 1 StE vp p) :
  Calls Tryz.prog 49 #[vp] w fun e w'=>e=.returned (.int .i64 (pathI p))/\Below w.heap.size w w':=by
 obtain⟨A,c,rfl,c1,c2,c3⟩:=h
 unfold Big at c2
 go_enter Tryz.func49,Tryz.ntmps49
 by_cases h1:p.length=0
 ·have hP:pathI p=1:=by unfold pathI;rw[if_pos (.inl (by omega))]
  rw[hP]
  clear hP
  go_wp2_with fail
  go_ret
  exact⟨rfl,Below.refl _ _⟩
 by_cases h3:3<p.length
 ·have hP:pathI p=1:=by unfold pathI;rw[if_pos (.inr (.inl h3))]
  rw[hP]
  clear hP
  have h1':((p.length:Int)==0)=false:=by simpa using h1
  go_wp2_with fail
  go_ret
  exact⟨rfl,Below.refl _ _⟩
 have h1':((p.length:Int)==0)=false:=by simpa using h1
 have h3':decide ((3:Int)<p.length)=false:=by simp;omega
 go_wp2_with fail
 go_loopw [15] (fun i wr=>∃ k:Nat,k<=p.length/\i=.int .i64 k/\Hid (∀ (j:Nat) x,j<k->p[j]?=some x->Q7 x=false)/\Below w.heap.size w wr) (fun i _=>p.length-(intOf i).toNat)
 case atStart=>exact⟨0,Nat.zero_le _,rfl,fun j x hj=>absurd hj (Nat.not_lt_zero _),Below.refl _ _⟩
 case round=>
  obtain⟨k,hk,rfl,hno,hb⟩:=hrel
  by_cases hlt:k<p.length
  ·obtain⟨x,hx⟩:∃ x,p[k]?=some x:=⟨_,List.getElem?_eq_getElem hlt⟩
   obtain⟨b,off,rfl,hbB,hc⟩:=c3 (by rintro rfl;simp at hlt)
   obtain⟨cs,⟨rfl,hok⟩,_,hu⟩:=hc k _ hx
   have e0:wr.cell? ⟨b,off+k,none⟩=some (.string x):=(hb.cell hbB).trans (by simpa using hu 0 _ rfl)
   have HX:=hid hx
   have HOK:=hid hok
   unfold Big at hok
   clear hu hc hx
   by_cases hl:30<x.size
   ·have HB:Hid (Q7 x=true):=by unfold Hid Q7;simp[hl]
    go_wp2_with fail
    go_ret
    exact⟨Qn (by unfold pathI;rw[if_pos (.inr (.inr (qZ9 HX.out HB.out)))]),hb⟩
   ·go_wp2_with fail
    refine (Ys x _ HOK.out).mono ?_
    by_cases hk0:kindB x=0
    ·have HB:Hid (Q7 x=true):=by unfold Hid Q7;simp[hk0]
     rw[hk0]
     rintro e w1 ⟨rfl,hb1⟩
     have hB:=hb.trans (hb1.mono hb.size)
     clear hk0
     go_wp2_with fail
     go_ret
     exact⟨Qn (by unfold pathI;rw[if_pos (.inr (.inr (qZ9 HX.out HB.out)))]),hB⟩
    ·have HB:Hid (Q7 x=false):=by unfold Hid Q7;simp[hk0];omega
     have hkz:(kindB x==0)=false:=by simpa using hk0
     rintro e w1 ⟨rfl,hb1⟩
     have hB:=hb.trans (hb1.mono hb.size)
     clear hk0
     go_wp2_with fail
     go_roundw
     case rel=>
      refine⟨k+1,by omega,by go_num,fun j y hj hy=>?_,hB⟩
      rcases (show j<k∨j=k by omega) with h|rfl
      ·exact hno.out j y h hy
      ·have:=HX.out;rw[hy]at this;cases this;exact HB.out
     case measure=>simp[intOf];omega
  ·obtain rfl:k=p.length:=by omega
   have HN:Hid (p.any Q7=false):=zZy hno.out
   have HPI:Hid (pathI p=if p.dropLast.any noMap then 6 else 0):=by unfold Hid pathI;rw[if_neg (by rintro (h|h|h)<;>first|omega|(rw[HN.out]at h;cases h))]
   obtain⟨wz,hwz⟩:∃ z,z=wr:=⟨_,rfl⟩
   subst hwz
   go_wp2_with fail
   go_loopw [35] (fun i wr=>∃ k:Nat,k<=p.length/\i=.int .i64 k/\Hid (∀ (j:Nat) x,j<k->p.dropLast[j]?=some x->noMap x=false)/\Below w.heap.size w wr) (fun i _=>p.length-(intOf i).toNat)
   case atStart=>exact⟨0,Nat.zero_le _,rfl,fun j x hj=>absurd hj (Nat.not_lt_zero _),hb⟩
   case round=>
    obtain⟨k,hk,rfl,hno2,hb⟩:=hrel
    by_cases hlt:k<p.length
    ·obtain⟨x,hx⟩:∃ x,p[k]?=some x:=⟨_,List.getElem?_eq_getElem hlt⟩
     obtain⟨b,off,rfl,hbB,hc⟩:=c3 (by rintro rfl;simp at hlt)
     obtain⟨cs,⟨rfl,hok⟩,_,hu⟩:=hc k _ hx
     have e0:wr.cell? ⟨b,off+k,none⟩=some (.string x):=(hb.cell hbB).trans (by simpa using hu 0 _ rfl)
     have HX:=hid hx
     have HOK:=hid hok
     clear hu hc hx hok
     by_cases hl:k+1<p.length
     ·have HD:Hid (p.dropLast[k]?=some x):=by unfold Hid;rw[List.dropLast_eq_take,List.getElem?_take,if_pos (by omega)];exact HX.out
      have hl':(k:Int)<(p.length:Int)-1:=by omega
      go_wp2_with fail
      refine (Ys x _ HOK.out).mono ?_
      by_cases hk5:kindB x=5
      ·have HB:Hid (noMap x=false):=by unfold Hid noMap;simp[hk5]
       rw[hk5]
       rintro e w1 ⟨rfl,hb1⟩
       have hB:=hb.trans (hb1.mono hb.size)
       clear hk5
       go_wp2_with fail
       go_roundw
       case rel=>
        refine⟨k+1,by omega,by go_num,fun j y hj hy=>?_,hB⟩
        rcases (show j<k∨j=k by omega) with h|rfl
        ·exact hno2.out j y h hy
        ·have:=HD.out;rw[hy]at this;cases this;exact HB.out
       case measure=>simp[intOf];omega
      ·have HB:Hid (noMap x=true):=by unfold Hid noMap;simp[hk5]
       have hkz:(kindB x==5)=false:=by simpa using hk5
       rintro e w1 ⟨rfl,hb1⟩
       have hB:=hb.trans (hb1.mono hb.size)
       clear hk5
       go_wp2_with fail
       go_ret
       exact⟨Qn (by rw[HPI.out,qZ9 HD.out HB.out];rfl),hB⟩
     ·have hl':¬(k:Int)<(p.length:Int)-1:=by omega
      go_wp2_with fail
      go_roundw
      case rel=>
       refine⟨k+1,by omega,by go_num,fun j y hj hy=>?_,hb⟩
       have hjl:=(List.getElem?_eq_some_iff.1 hy).1
       rw[List.length_dropLast]at hjl
       exact hno2.out j y (by omega) hy
      case measure=>simp[intOf];omega
    ·obtain rfl:k=p.length:=by omega
     have HN2:Hid (p.dropLast.any noMap=false):=zZy fun j x hj hx=>hno2.out j x (by rw[List.length_dropLast]at hj;omega) hx
     go_wp2_with fail
     go_ret
     exact⟨Qn (by rw[HPI.out,HN2.out];rfl),hb⟩
end Go.Proofs.YtbcoelggdikipaaGreat
