/- What the laws need. No condition but those that each lemma states. -/
import Derived.Test.YtbcoelggdikipaaGreatUw8
import Derived.Test.YtbcoelggdikipaaGreatUw7
import Derived.Test.YtbcoelggdikipaaGreatUw6
import Derived.Test.YtbcoelggdikipaaGreatUw2
import Derived.Test.YtbcoelggdikipaaGreatUw4
set_option maxRecDepth 100000
set_option maxHeartbeats 8000000
set_option linter.unusedSimpArgs false
namespace Go.Proofs.YtbcoelggdikipaaGreat
open Go.RowKit
theorem qV0 (a b:List (Int×Int))(k:Nat):(QV (a.take k) b).length<=(QV a b).length:=by
 have h:QV a b=QV (a.take k) b++QV (a.drop k) b:=by unfold QV;rw[←List.flatMap_append,List.take_append_drop]
 rw[h];simp
theorem qJ3 (a b:List (Int×Int))(va vb:Value)(w:World)(ha:SlP w w.heap.size 2 RuE va a)(hb:SlP w w.heap.size 2 RuE vb b)(hra:runsR none a=true)(hrb:runsR none b=true)(hN:(QV a b).length<=900000) :
  Calls Tryz.prog 159 #[va,vb] w (RetO w 167 2 (fun _=>RuE) (QV a b)):=by
 have HA:=hid ha
 have HB:=hid hb
 have HRA:=hid hra
 have HRB:=hid hrb
 obtain⟨A1,c1,rfl,a1,a2,a3⟩:=ha
 obtain⟨A2,c2,rfl,b1,b2,b3⟩:=hb
 unfold Big at a2 b2
 clear hra hrb
 go_enter Tryz.func159,Tryz.ntmps159
 go_wp2_with fail
 refine (J9 a b _ _ w HA.out HB.out).mono ?_
 rw[HRA.out,HRB.out]
 rintro e w1 ⟨rfl,hb1⟩
 have hs1:=hb1.size
 go_wp2_with fail
 go_loopw [5,16] (fun v i wr=>∃ k:Nat,k<=a.length/\i=.int .i64 k/\OwnP wr w1.heap.size 167 2 RuE v (QV (a.take k) b)/\Below w1.heap.size w1 wr) (fun _ i _=>a.length-(intOf i).toNat)
 case atStart=>exact⟨0,Nat.zero_le _,rfl,OwnP.nil,Below.refl _ _⟩
 case round=>
  obtain⟨k,hk,rfl,hown,hbr⟩:=hrel
  have hsz:=hbr.size
  have hB0:Below w.heap.size w wr:=hb1.trans (hbr.mono hs1)
  by_cases hlt:k<a.length
  ·obtain⟨r,hr⟩:∃ x,a[k]?=some x:=⟨_,List.getElem?_eq_getElem hlt⟩
   obtain⟨bb,off,rfl,hbB,hc⟩:=a3 (by rintro rfl;simp at hlt)
   obtain⟨cs,⟨rfl,hok⟩,_,hu⟩:=hc k _ hr
   have e0:wr.cell? ⟨bb,off+k*2,none⟩=some (.int .i64 r.1):=(hB0.cell hbB).trans (hu 0 _ rfl)
   have e1:wr.cell? ⟨bb,off+k*2+1,none⟩=some (.int .i64 r.2):=(hB0.cell hbB).trans (hu 1 _ rfl)
   have hrok:=Zc a none HRA.out r (List.mem_of_getElem? hr)
   unfold runOk at hrok
   have HX:=hid (qZu (b:=b) hr)
   have HLE:Hid ((QV (a.take (k+1)) b).length<=900000):=Nat.le_trans (qV0 a b _) hN
   clear hu hc a3 hr
   go_wp2_with fail
   obtain⟨wo,rfl⟩:∃ wo:World,wo=wr:=⟨_,rfl⟩
   go_loopw [5,22] (fun v i wq=>∃ (j:Nat) (os:List (Int×Int)) (lo:Int),j<=b.length/\i=.int .i64 j/\OwnP wq w1.heap.size 167 2 RuE v os/\Hid (os++cutL (b.drop j) lo r.2=QV (a.take (k+1)) b)/\(∀ g,v.ownBlock=some g->g≠wo.heap.size) /\
     wq.heap[wo.heap.size]?=some (.cells #[.int .i64 lo,.int .i64 r.2] 167 (0,0))/\1<=lo/\lo<=1099511627777/\wo.heap.size<wq.heap.size/\Below w1.heap.size w1 wq) (fun _ i _=>b.length-(intOf i).toNat)
   case atStart=>exact⟨0,_,r.1,Nat.zero_le _,rfl,hown.alloc _,by unfold Hid;rw[HX.out];simp,fun g hg=>Nat.ne_of_lt (hown.lt g hg).2,Qd rfl,by omega,by omega,by simp,hbr.alloc (by omega) _⟩
   case round=>
    obtain⟨j,os,lo,hj,rfl,hown,HOS,hne,hg7,hl1,hl2,hsq,hbq⟩:=hrel
    have hBq:Below w.heap.size w wr:=hb1.trans (hbq.mono hs1)
    have d0:wr.cell? ⟨wo.heap.size,0,none⟩=some (.int .i64 lo):=Qa (i:=0) hg7
    have d1:wr.cell? ⟨wo.heap.size,1,none⟩=some (.int .i64 r.2):=Qa (i:=1) hg7
    have hf:=Qb (i:=0) hg7
    have hnq:wo.heap.size≠wr.heap.size:=by omega
    by_cases hlj:j<b.length
    ·obtain⟨x,hx⟩:∃ x,b[j]?=some x:=⟨_,List.getElem?_eq_getElem hlj⟩
     obtain⟨bb',off',rfl,hbB',hc⟩:=b3 (by rintro rfl;simp at hlj)
     obtain⟨cs,⟨rfl,hok'⟩,_,hu⟩:=hc j _ hx
     have f0:wr.cell? ⟨bb',off'+j*2,none⟩=some (.int .i64 x.1):=(hBq.cell hbB').trans (hu 0 _ rfl)
     have f1:wr.cell? ⟨bb',off'+j*2+1,none⟩=some (.int .i64 x.2):=(hBq.cell hbB').trans (hu 1 _ rfl)
     have hxok:=Zc b none HRB.out x (List.mem_of_getElem? hx)
     unfold runOk at hxok
     have hcut:=qVz hx lo r.2
     clear hu hc b3 hx
     rcases t1:decide (x.2<lo)
     ·rcases t2:decide (r.2<x.1)
      ·have hno:¬(x.2<lo∨r.2<x.1):=by simp at t1 t2;omega
       rw[if_neg hno]at hcut
       rcases t3:decide (lo<x.1)
       ·have HO2:Hid (os++cutL (b.drop (j+1)) (x.2+1) r.2=QV (a.take (k+1)) b):=by
         have h:=HOS.out
         rw[hcut,if_neg (by simpa using t3)]at h;exact h
        clear hcut
        go_wp2_with fail
        have hW:=Qe (i:=0) hg7 (.int .i64 (x.2+1))
        have hZ:(wr.setCell ⟨wo.heap.size,0,none⟩ (.int .i64 (x.2+1))).heap.size=wr.heap.size:=by simp[World.setCell]
        go_roundw
        case rel=>exact⟨j+1,os,x.2+1,by omega,by go_num,(hown.keep fun g hg=>Below.heap_setCell _ _ _ _ (hne g hg)).alloc _,HO2,hne,(Qg (by omega)).trans (by simpa using hW),by omega,by omega,by rw[World.size_alloc];omega,(hbq.setCell (p:=⟨wo.heap.size,0,none⟩) (by show w1.heap.size<=wo.heap.size;omega) _).alloc (by omega) _⟩
        case measure=>simp[intOf];omega
       ·have HO2:Hid ((os++[(lo,x.1-1)])++cutL (b.drop (j+1)) (x.2+1) r.2=QV (a.take (k+1)) b):=by
         have h:=HOS.out
         rw[hcut,if_pos (by simpa using t3)]at h;unfold Hid;rw[←h];simp
        have hll:os.length+1<=900000:=by have h:=congrArg List.length HO2.out;have:=HLE.out;simp at h;omega
        have HRE:Hid (RuE (lo,x.1-1) [.int .i64 lo,.int .i64 (x.1-1)]):=⟨rfl,⟨by show _<=lo;omega,by show lo<=_;omega⟩,⟨by show _<=x.1-1;omega,by show x.1-1<=_;omega⟩⟩
        clear hcut
        go_wp2_with (at_builtin;go_loud (refine XY rfl (.tmp 43) (.tmp 50) _ rfl eiRun (by decide) (fun _ _ h=>h.one) rfl ((hown.alloc _).alloc _) rfl (SlP.one (x:=(lo,x.1-1)) HRE.out rfl _ (by rw[World.size_alloc])) (by simp;omega) (by simp[Big];omega) (by rw[World.size_alloc,World.size_alloc];omega) ?_);intro v1 w4 hown4 hgr hob;go_loud (have hb4:Hid (Below w1.heap.size ((wr.alloc (.cells #[.int .i64 x.1,.int .i64 x.2] 167)).alloc (.cells #[.int .i64 lo,.int .i64 (x.1-1)] 167)) w4):=((Below.refl w1.heap.size _).grown hgr (by rw[World.size_alloc,World.size_alloc];omega) fun g hg=>(hown.lt g hg).1);have hg4:w4.heap[wo.heap.size]?=some (.cells #[.int .i64 lo,.int .i64 r.2] 167 (0,0)):=(hgr.block _ (by rw[World.size_alloc,World.size_alloc];omega) (fun e=>hne _ e.symm rfl)).trans ((Qg (by rw[World.size_alloc];omega)).trans ((Qg hsq).trans hg7));have g0:w4.cell? ⟨wo.heap.size,0,none⟩=some (.int .i64 lo):=Qa (i:=0) hg4;have gf:=Qb (i:=0) hg4;have hg5:w4.heap[wr.heap.size]?=some (.cells #[.int .i64 x.1,.int .i64 x.2] 167 (0,0)):=(hgr.block _ (by rw[World.size_alloc,World.size_alloc];omega) (fun e=>by have:=(hown.lt _ e.symm).2;omega)).trans ((Qg (by rw[World.size_alloc];omega)).trans (Qd rfl));have g1:w4.cell? ⟨wr.heap.size,1,none⟩=some (.int .i64 x.2):=Qa (i:=1) hg5))
        have hs4:=hb4.out.size
        have hz4:=hgr.size
        rw[World.size_alloc,World.size_alloc]at hz4
        have hne4:∀ g,v1.ownBlock=some g->g≠wo.heap.size:=fun g hg=>by
         rcases hob with h|h
         ·exact hne g (h▸hg)
         ·rw[h,World.size_alloc,World.size_alloc]at hg;cases hg;omega
        have hW:=Qe (i:=0) hg4 (.int .i64 (x.2+1))
        go_roundw
        case rel=>exact⟨j+1,_,x.2+1,by omega,by go_num,hown4.keep fun g hg=>Below.heap_setCell _ _ _ _ (hne4 g hg),HO2,hne4,by simpa using hW,by omega,by omega,by simp[World.setCell];omega,(((hbq.alloc (by omega) _).alloc (by rw[World.size_alloc];omega) _).trans hb4.out).setCell (p:=⟨wo.heap.size,0,none⟩) (by show w1.heap.size<=wo.heap.size;omega) _⟩
        case measure=>simp[intOf];omega
      ·have HO2:Hid (os++cutL (b.drop (j+1)) lo r.2=QV (a.take (k+1)) b):=by
        have h:=HOS.out
        rw[hcut,if_pos (.inr (by simpa using t2))]at h;exact h
       clear hcut
       go_wp2_with fail
       go_roundw
       case rel=>exact⟨j+1,os,lo,by omega,by go_num,hown.alloc _,HO2,hne,(Qg hsq).trans hg7,hl1,hl2,by simp;omega,hbq.alloc (by omega) _⟩
       case measure=>simp[intOf];omega
     ·have HO2:Hid (os++cutL (b.drop (j+1)) lo r.2=QV (a.take (k+1)) b):=by
       have h:=HOS.out
       rw[hcut,if_pos (.inl (by simpa using t1))]at h;exact h
      clear hcut
      go_wp2_with fail
      go_roundw
      case rel=>exact⟨j+1,os,lo,by omega,by go_num,hown.alloc _,HO2,hne,(Qg hsq).trans hg7,hl1,hl2,by simp;omega,hbq.alloc (by omega) _⟩
      case measure=>simp[intOf];omega
    ·obtain rfl:j=b.length:=by omega
     have hend:=HOS.out
     rw[List.drop_length,cutL]at hend
     rcases t4:decide (lo<=r.2)
     ·rw[if_neg (by simpa using t4),List.append_nil]at hend
      have HEN:=hid hend
      clear hend
      go_wp2_with fail
      go_roundw
      case rel=>exact⟨k+1,by omega,by go_num,by rw[←HEN.out];exact hown,hbq⟩
      case measure=>simp[intOf];omega
     ·rw[if_pos (by simpa using t4)]at hend
      have HEN:=hid hend
      have hll:os.length+1<=900000:=by have h:=congrArg List.length hend;have:=HLE.out;simp at h;omega
      have HL:Hid (os.length + [(lo,r.2)].length<=Few):=by unfold Hid Few;simp;omega
      have HRE:Hid (RuE (lo,r.2) [.int .i64 lo,.int .i64 r.2]):=⟨rfl,⟨by show _<=lo;omega,by show lo<=_;omega⟩,⟨by show _<=r.2;omega,by show r.2<=_;omega⟩⟩
      clear hend
      go_wp2_with (at_builtin;go_loud (refine Qk rfl (.tmp 62) (.tmp 64) _ rfl eiRun (by decide) (by decide) (fun _ _ h=>h.one) rfl (hown.alloc _) rfl (SlP.one (x:=(lo,r.2)) HRE.out rfl _ rfl) HL.out (by rw[World.size_alloc];omega) ?_);intro v1 w4 hown4 hb4 _)
      go_roundw
      case rel=>exact⟨k+1,by omega,by go_num,by rw[←HEN.out];exact hown4,(hbq.alloc (by omega) _).trans hb4⟩
      case measure=>simp[intOf];omega
  ·obtain rfl:k=a.length:=by omega
   rw[List.take_of_length_le (Nat.le_refl _)]at hown
   go_wp2_with fail
   go_ret
   exact⟨_,rfl,hown.mono hs1,hB0⟩
theorem qJ4:Vy 159 2:=
 ⟨enters_of Tryz.func159 (by kernel_rfl) rfl,fun a b va vb W ha hb hra hrb hN hN'=>qYj hra hrb▸qJ3 a b va vb W ha hb hra hrb (by rw[qYj hra hrb];have:=JJ a b 2;omega)⟩
theorem qJ5 (a b:List Sp)(va vb:Value)(w:World)(ha:SlP w w.heap.size 3 SpE va a)(hb:SlP w w.heap.size 3 SpE vb b)(hra:Qm a=true)(hrb:Qm b=true)(hN:a.length<=20000)(hN':b.length<=20000) :
  Calls Tryz.prog 116 #[va,vb] w (RetO w 45 3 (fun _=>SpE) (ctxBy a b 2)):=by
 go_enter Tryz.func116,Tryz.ntmps116
 go_wp2_with fail
 refine (qZp a b 2 _ qJ4 va vb w ha hb hra hrb hN hN').mono ?_
 rintro e w1 ⟨v,rfl,h⟩
 go_wp2_with fail
 go_ret
 exact⟨v,rfl,h⟩
theorem Va (c:List Sp)(vc:Value)(w:World)(h:SlP w w.heap.size 3 SpE vc c)(hN:c.length<=900000) :
  Calls Tryz.prog 115 #[vc] w fun e w'=>e=.returned (.bool (Qm c))/\Below w.heap.size w w':=by
 have HC:=hid h
 obtain⟨A,n,rfl,_⟩:=h
 go_enter Tryz.func115,Tryz.ntmps115
 go_wp2_with fail
 refine (Xv c _ _ HC.out hN).mono ?_
 rintro e w1 ⟨vs,rfl,hsl,hb1⟩
 have hs1:=hb1.size
 obtain⟨A0,m0,g0,_⟩:=hsl 0 (by omega)
 obtain⟨A1,m1,g1,_⟩:=hsl 1 (by omega)
 obtain⟨A2,m2,g2,_⟩:=hsl 2 (by omega)
 obtain⟨A3,m3,g3,_⟩:=hsl 3 (by omega)
 simp only[g0,g1,g2,g3]
 clear hsl g0 g1 g2 g3
 go_wp2_with fail
 all_goals (go_ret;exact⟨rfl,hb1.alloc hs1 _⟩)
def cLeq (a b:List Sp):Bool:=Qm a&&(Qm b&&decide ((ctxBy a b 2).length=0))
theorem zQq (a b:List Sp)(va vb:Value)(w:World)(ha:SlP w w.heap.size 3 SpE va a)(hb:SlP w w.heap.size 3 SpE vb b)(hN:a.length<=20000)(hN':b.length<=20000) :
  Calls Tryz.prog 69 #[va,vb] w fun e w'=>e=.returned (.bool (cLeq a b))/\Below w.heap.size w w':=by
 have HA:=hid ha
 have HB:=hid hb
 obtain⟨A1,c1,rfl,_⟩:=ha
 obtain⟨A2,c2,rfl,_⟩:=hb
 go_enter Tryz.func69,Tryz.ntmps69
 go_wp2_with fail
 refine (Va a _ w HA.out (by omega)).mono ?_
 rintro e w1 ⟨rfl,hb1⟩
 have hs1:=hb1.size
 cases ra:Qm a
 ·have HR:Hid (cLeq a b=false):=by unfold Hid cLeq;rw[ra];rfl
  clear ra
  go_wp2_with fail
  go_ret
  exact⟨Qf HR.out.symm,hb1⟩
 have RA:=hid ra
 go_wp2_with fail
 refine (Va b _ w1 (HB.out.imp hb1 hs1 fun _ _ _ h=>h) (by omega)).mono ?_
 rintro e w2 ⟨rfl,hb2⟩
 have hs2:=hb2.size
 have hB2:Below w.heap.size w w2:=hb1.trans (hb2.mono hs1)
 cases rb:Qm b
 ·have HR:Hid (cLeq a b=false):=by unfold Hid cLeq;rw[ra,rb];rfl
  clear ra rb
  go_wp2_with fail
  go_ret
  exact⟨Qf HR.out.symm,hB2⟩
 have RB:=hid rb
 have HR:Hid (cLeq a b=decide ((ctxBy a b 2).length=0)):=by unfold Hid cLeq;rw[ra,rb];rfl
 clear ra rb
 go_wp2_with fail
 refine (qJ5 a b _ _ w2 (HA.out.imp hB2 (by omega) fun _ _ _ h=>h) (HB.out.imp hB2 (by omega) fun _ _ _ h=>h) RA.out RB.out hN hN').mono ?_
 rintro e w3 ⟨v3,rfl,ho3,hb3⟩
 obtain⟨A5,c5,rfl⟩:=ho3.shape
 have hl:=YI a b 2
 clear ho3
 generalize ctxBy a b 2=C at *
 rcases hz:decide (C.length=0)
 ·have hz2:C.length≠0:=by simpa using hz
  have HZ:=hid hz
  clear hz
  go_wp2_with fail
  go_ret
  exact⟨Qf (by rw[HR.out,HZ.out];simpa using hz2),hB2.trans (hb3.mono (by omega))⟩
 ·have hz2:C.length=0:=by simpa using hz
  have HZ:=hid hz
  clear hz
  go_wp2_with fail
  go_ret
  exact⟨Qf (by rw[HR.out,HZ.out]),hB2.trans (hb3.mono (by omega))⟩
def caR (t:Tr)(c:List Sp):Bool:=t.right 5&&cLeq (ctxOf t.dots) c
theorem QR (t:Tr)(c:List Sp)(ve vk vc:Value)(w:World)(h:t.rd w w.heap.size ve vk)(hc:SlP w w.heap.size 3 SpE vc c)(hN:t.sz<=4000)(hN':c.length<=20000) :
  Calls Tryz.prog 34 #[.agg #[ve,vk,vc]] w fun e w'=>e=.returned (.bool (caR t c))/\Below w.heap.size w w':=by
 have HC:Hid (∀ w',Below w.heap.size w w'->t.rd w' w'.heap.size ve vk):=fun w' hb=>Qi hb hb.size _ _ _ h
 have HS:Hid (∀ w',Below w.heap.size w w'->SlP w' w'.heap.size 3 SpE vc c):=fun w' hb=>hc.imp hb hb.size fun _ _ _ h=>h
 have hd1:=QL t.dots
 have hd2:=Zb t
 obtain⟨A3,n3,A4,n4,rfl,rfl⟩:=Qj h
 obtain⟨A5,n5,rfl,_⟩:=hc
 clear h
 have hb0:Below w.heap.size w (w.alloc (.cells #[.slice A3 t.es.length n3,.slice A4 t.ks.length n4,.slice A5 c.length n5] 29)):=(Below.refl _ w).alloc (Nat.le_refl _) _
 go_enter Tryz.func34,Tryz.ntmps34
 go_wp2_with fail
 refine (YG t _ _ _ (HC.out _ hb0) (by omega)).mono ?_
 rintro e w1 ⟨v1,n1,rfl,hn1,ho1,hb1⟩
 have hs1:=hb1.size
 simp only[World.size_alloc]at hs1
 have hB1:Below w.heap.size w w1:=hb0.trans (hb1.mono (by simp))
 have b2:w1.cell? ⟨w.heap.size,2,none⟩=some (.slice A5 c.length n5):=by rw[hb1.cell (p:=⟨w.heap.size,2,none⟩) (by simp)];simp
 cases hr:t.right 5
 ·rw[hr]at hn1 ho1
  simp only[Bool.false_eq_true,if_false]at hn1 ho1
  subst hn1
  have HR:Hid (caR t c=false):=by unfold Hid caR;rw[hr];rfl
  obtain⟨A6,n6,rfl⟩:=ho1.shape
  clear hr ho1
  go_wp2_with fail
  go_ret
  exact⟨Qf HR.out.symm,hB1⟩
 ·rw[hr]at hn1 ho1
  simp only[if_true]at hn1 ho1
  subst hn1
  have HR:Hid (caR t c=cLeq (ctxOf t.dots) c):=by unfold Hid caR;rw[hr];rfl
  have HSL:=hid (ho1.sl (by unfold Big;omega))
  obtain⟨A6,n6,rfl⟩:=ho1.shape
  clear hr ho1
  go_wp2_with fail
  refine (zQq (ctxOf t.dots) c _ _ w1 HSL.out (HS.out _ hB1) (by omega) hN').mono ?_
  rintro e w2 ⟨rfl,hb2⟩
  go_wp2_with fail
  go_ret
  exact⟨Qf HR.out.symm,hB1.trans (hb2.mono (by omega))⟩
theorem qQm (l:List (Int×Int))(v:Value)(w:World)(h:SlP w w.heap.size 2 RuE v l) :
  Calls Tryz.prog 122 #[v] w fun e w'=>e=.returned (.bool (runsR none l))/\Below w.heap.size w w':=by
 obtain⟨A,n,rfl,b1,b2,b3⟩:=h
 unfold Big at b2
 go_enter Tryz.func122,Tryz.ntmps122
 go_wp2_with fail
 go_loopw [6] (fun i wr=>∃ k:Nat,k<=l.length/\i=.int .i64 k/\Hid (runsR (prevR l k) (l.drop k)=runsR none l)/\Hid (∀ h,prevR l k=some h->1<=h/\h<=1099511627776)/\Below w.heap.size w wr) (fun i _=>l.length-(intOf i).toNat)
 case atStart=>exact⟨0,Nat.zero_le _,rfl,rfl,fun _ h=>by simp[prevR]at h,Below.refl _ _⟩
 case round=>
  obtain⟨k,hk,rfl,hrel,hpr,hb⟩:=hrel
  have hsz:=hb.size
  by_cases hlt:k<l.length
  ·obtain⟨r,hx⟩:∃ x,l[k]?=some x:=⟨_,List.getElem?_eq_getElem hlt⟩
   obtain⟨b,off,rfl,hbB,hc⟩:=b3 (by rintro rfl;simp at hlt)
   obtain⟨cs,⟨rfl,hok⟩,_,hu⟩:=hc k _ hx
   have hi1:=hok.1
   unfold I64 at hi1
   have e0:wr.cell? ⟨b,off+k*2,none⟩=some (.int .i64 r.1):=(hb.cell hbB).trans (hu 0 _ rfl)
   have e1:wr.cell? ⟨b,off+k*2+1,none⟩=some (.int .i64 r.2):=(hb.cell hbB).trans (hu 1 _ rfl)
   have HR:Hid (runsR none l=(numB r.1&&numB r.2&&decide (r.1<=r.2)&&okR (prevR l k) r.1&&runsR (prevR l (k+1)) (l.drop (k+1)))):=by
    have:=hrel.out
    rw[QJ hx,X3]at this
    rw[YT hx];exact this.symm
   have HPS:=hid (YT hx)
   have f0:=Qh (B:=wr.heap.size) (w:=wr) (b:=b) (o:=off+k*2) (v:=.int .i64 r.1) e0 (by omega)
   have f1:=Qh (B:=wr.heap.size) (w:=wr) (b:=b) (o:=off+k*2+1) (v:=.int .i64 r.2) e1 (by omega)
   have hprev:∃ q:Int,(0<k->prevR l k=some q/\(∀ p:Far wr.heap.size wr,p.w'.cell? ⟨b,off+(k-1)*2+1,none⟩=some (.int .i64 q))):=by
    by_cases h0:0<k
    ·obtain⟨y,hy⟩:∃ y,l[k-1]?=some y:=⟨_,List.getElem?_eq_getElem (by omega)⟩
     obtain⟨cs,⟨rfl,_⟩,_,hu⟩:=hc (k-1) _ hy
     refine⟨y.2,fun _=>⟨by rw[prevR,if_neg (by omega),hy];rfl,fun p=>Qh ?_ (by omega) p⟩⟩
     exact (hb.cell hbB).trans (hu 1 _ rfl)
    ·exact⟨0,fun h=>absurd h h0⟩
   obtain⟨q,hprev⟩:=hprev
   go_upto_region 4 with (fail)
   clear hrel hu hc b3 hx e0 e1 hok
   rcases t1:decide (r.1<1)
   case true=>
    have h1:Hid (numB r.1=false):=by have:=of_decide_eq_true t1;unfold Hid;simp[numB];omega
    refine Qc wr.heap.size (by kernel_rfl) (by kernel_rfl) ?_
    repeat (go_big_quiet_step (fail))
    refine wpQuiet_nil ?_
    intro wq hbq
    have hbw:Below w.heap.size w wq:=hb.trans (hbq.mono (by omega))
    go_wp2_with fail
    go_ret
    refine⟨Qf ?_,hbw⟩
    rw[HR.out]
    rw[h1.out];simp
   rcases t2:decide (1099511627776<r.2)
   case true=>
    have h2:Hid (numB r.2=false):=by have:=of_decide_eq_true t2;unfold Hid;simp[numB];omega
    refine Qc wr.heap.size (by kernel_rfl) (by kernel_rfl) ?_
    repeat (go_big_quiet_step (fail))
    refine wpQuiet_nil ?_
    intro wq hbq
    have hbw:Below w.heap.size w wq:=hb.trans (hbq.mono (by omega))
    go_wp2_with fail
    go_ret
    refine⟨Qf ?_,hbw⟩
    rw[HR.out]
    rw[h2.out];simp
   rcases t3:decide (r.2<r.1)
   case true=>
    have h3:Hid (decide (r.1<=r.2)=false):=by have:=of_decide_eq_true t3;unfold Hid;simp;omega
    refine Qc wr.heap.size (by kernel_rfl) (by kernel_rfl) ?_
    repeat (go_big_quiet_step (fail))
    refine wpQuiet_nil ?_
    intro wq hbq
    have hbw:Below w.heap.size w wq:=hb.trans (hbq.mono (by omega))
    go_wp2_with fail
    go_ret
    refine⟨Qf ?_,hbw⟩
    rw[HR.out]
    rw[h3.out];simp
   have g1:=of_decide_eq_false t1
   have g2:=of_decide_eq_false t2
   have g3:=of_decide_eq_false t3
   have h3:Hid (decide (r.1<=r.2)=true):=by unfold Hid;simp;omega
   have h1:numB r.1=true:=by simp[numB];omega
   have h2:numB r.2=true:=by simp[numB];omega
   have HN:Hid (∀ h,prevR l (k+1)=some h->1<=h/\h<=1099511627776):=fun h hh=>by rw[HPS.out]at hh;cases hh;omega
   rcases Nat.eq_zero_or_pos k with h0|h0
   ·have t0:decide ((0:Int)<(k:Int))=false:=by simp;omega
    have t0':decide (0<k)=false:=by simp;omega
    have hpk:Hid (okR (prevR l k) r.1=true):=by rw[show prevR l k=none by (rw[h0];rfl)];rfl
    clear h0 hprev
    refine Qc wr.heap.size (by kernel_rfl) (by kernel_rfl) ?_
    repeat (go_big_quiet_step (fail))
    refine wpQuiet_nil ?_
    intro wq hbq
    have hbw:Below w.heap.size w wq:=hb.trans (hbq.mono (by omega))
    go_wp2_with fail
    go_roundw
    case rel=>
     refine⟨k+1,by omega,by go_num,?_,HN.out,hbw⟩
     show _=_
     rw[HR.out,h1,h2]
     rw[h3.out,hpk.out];simp
    case measure=>simp[intOf];omega
   ·obtain⟨hq,q0⟩:=hprev h0
    have hqb:=hpr.out q hq
    have hwq:IntKind.i64.wrap (r.1-q)=r.1-q:=IntWalk.i64_in _ (by omega)
    have hwk:IntKind.i64.wrap ((k:Int)-1)=(k:Int)-1:=IntWalk.i64_in _ (by omega)
    rcases t5:decide (r.1-q<2)
    ·have hpk:Hid (okR (prevR l k) r.1=true):=by rw[hq];have:=of_decide_eq_false t5;unfold Hid;simp[okR];omega
     clear hprev hq hqb
     refine Qc wr.heap.size (by kernel_rfl) (by kernel_rfl) ?_
     repeat (go_big_quiet_step (fail))
     refine wpQuiet_nil ?_
     intro wq hbq
     have hbw:Below w.heap.size w wq:=hb.trans (hbq.mono (by omega))
     go_wp2_with fail
     go_roundw
     case rel=>
      refine⟨k+1,by omega,by go_num,?_,HN.out,hbw⟩
      show _=_
      rw[HR.out,h1,h2]
      rw[h3.out,hpk.out];simp
     case measure=>simp[intOf];omega
    ·have hpk:Hid (okR (prevR l k) r.1=false):=by rw[hq];have:=of_decide_eq_true t5;unfold Hid;simp[okR];omega
     clear hprev hq hqb
     refine Qc wr.heap.size (by kernel_rfl) (by kernel_rfl) ?_
     repeat (go_big_quiet_step (fail))
     refine wpQuiet_nil ?_
     intro wq hbq
     have hbw:Below w.heap.size w wq:=hb.trans (hbq.mono (by omega))
     go_wp2_with fail
     go_ret
     refine⟨Qf ?_,hbw⟩
     rw[HR.out]
     rw[h1,h2,h3.out,hpk.out];simp
  ·obtain rfl:k=l.length:=by omega
   have hr:=hrel.out
   go_wp2_with fail
   go_ret
   exact⟨Qf (by rw[←hr];simp[runsR]),hb⟩
theorem Z4 (c:List Sp)(vc:Value)(w:World)(h:SlP w w.heap.size 3 SpE vc c)(hN:c.length<=900000) :
  Calls Tryz.prog 76 #[vc] w fun e w'=>e=.returned (.bool (Qm c))/\Below w.heap.size w w':=by
 have HS:=hid h
 obtain⟨A,n,rfl,b1,b2,b3⟩:=h
 unfold Big at b2
 go_enter Tryz.func76,Tryz.ntmps76
 go_wp2_with fail
 go_loopw [7] (fun i wr=>∃ (k:Nat) (L:Int),k<=c.length/\i=.int .i64 k/\Hid (dcsOk L (c.drop k)=dcsOk 0 c)/\Hid (∀ y,0<k->c[k-1]?=some y->y.dc=L)/\Hid (k=0->L=0)/\0<=L/\Below w.heap.size w wr) (fun i _=>c.length-(intOf i).toNat)
 case atStart=>exact⟨0,0,Nat.zero_le _,rfl,rfl,fun _ h=>absurd h (Nat.not_lt_zero _),fun _=>rfl,Int.le_refl _,Below.refl _ _⟩
 case round=>
  obtain⟨k,L,hk,rfl,hrel,hpr,hz0,hL,hb⟩:=hrel
  have hsz:=hb.size
  by_cases hlt:k<c.length
  ·obtain⟨x,hx⟩:∃ x,c[k]?=some x:=⟨_,List.getElem?_eq_getElem hlt⟩
   obtain⟨b,off,rfl,hbB,hc⟩:=b3 (by rintro rfl;simp at hlt)
   obtain⟨cs,⟨rfl,hok⟩,_,hu⟩:=hc k _ hx
   have e0:wr.cell? ⟨b,off+k*3,none⟩=some (.int .i64 x.dc):=(hb.cell hbB).trans (hu 0 _ rfl)
   have HR:Hid (dcsOk 0 c=(decide (L<=x.dc)&&decide (x.dc<4)&&dcsOk x.dc (c.drop (k+1)))):=by
    have:=hrel.out
    rw[QJ hx,dcsOk]at this
    exact this.symm
   have HQ:Hid (∀ y,0<k+1->c[k+1-1]?=some y->y.dc=x.dc):=fun y _ hy=>by
    rw[Nat.add_sub_cancel,hx]at hy;cases hy;rfl
   have f0:=Qh (B:=wr.heap.size) (w:=wr) (b:=b) (o:=off+k*3) (v:=.int .i64 x.dc) e0 (by omega)
   have hprev:0<k->(∀ p:Far wr.heap.size wr,p.w'.cell? ⟨b,off+(k-1)*3,none⟩=some (.int .i64 L)):=fun h0=>by
    obtain⟨y,hy⟩:∃ y,c[k-1]?=some y:=⟨_,List.getElem?_eq_getElem (by omega)⟩
    obtain⟨cs,⟨rfl,_⟩,_,hu⟩:=hc (k-1) _ hy
    intro p
    refine Qh ?_ (by omega) p
    rw[←hpr.out y h0 hy]
    exact (hb.cell hbB).trans (hu 0 _ rfl)
   go_upto_region 4 with (fail)
   clear hrel hu hc b3 hx e0 hok hpr
   rcases t1:decide (x.dc<0)
   case true=>
    have HF:Hid (Qm c=false):=by
     have:=of_decide_eq_true t1
     unfold Hid Qm;rw[HR.out,decide_eq_false (show ¬L<=x.dc by omega)];rfl
    refine Qc wr.heap.size (by kernel_rfl) (by kernel_rfl) ?_
    repeat (go_big_quiet_step (fail))
    refine wpQuiet_nil ?_
    intro wq hbq
    have hbw:Below w.heap.size w wq:=hb.trans (hbq.mono (by omega))
    go_wp2_with fail
    go_ret
    exact⟨Qf HF.out.symm,hbw⟩
   rcases t2:decide (4<=x.dc)
   case true=>
    have HF:Hid (Qm c=false):=by
     have:=of_decide_eq_true t2
     unfold Hid Qm;rw[HR.out,decide_eq_false (show ¬x.dc<4 by omega)];simp
    refine Qc wr.heap.size (by kernel_rfl) (by kernel_rfl) ?_
    repeat (go_big_quiet_step (fail))
    refine wpQuiet_nil ?_
    intro wq hbq
    have hbw:Below w.heap.size w wq:=hb.trans (hbq.mono (by omega))
    go_wp2_with fail
    go_ret
    exact⟨Qf HF.out.symm,hbw⟩
   have g1:0<=x.dc:=by have:=of_decide_eq_false t1;omega
   have g2:=of_decide_eq_false t2
   rcases Nat.eq_zero_or_pos k with h0|h0
   ·have t0:decide ((0:Int)<(k:Int))=false:=by simp;omega
    have t0':decide (0<k)=false:=by simp;omega
    have HG:Hid (dcsOk x.dc (c.drop (k+1))=dcsOk 0 c):=by
     unfold Hid;rw[HR.out,decide_eq_true (show L<=x.dc by have:=hz0.out h0;omega),decide_eq_true (show x.dc<4 by omega)];rfl
    clear h0 hprev
    refine Qc wr.heap.size (by kernel_rfl) (by kernel_rfl) ?_
    repeat (go_big_quiet_step (fail))
    refine wpQuiet_nil ?_
    intro wq hbq
    have hbw:Below w.heap.size w wq:=hb.trans (hbq.mono (by omega))
    go_wp2_with fail
    go_roundw
    case rel=>exact⟨k+1,x.dc,by omega,by go_num,HG.out,HQ.out,fun h=>absurd h (Nat.succ_ne_zero k),g1,hbw⟩
    case measure=>simp[intOf];omega
   ·have q0:=hprev h0
    have hwk:IntKind.i64.wrap ((k:Int)-1)=(k:Int)-1:=IntWalk.i64_in _ (by omega)
    clear hprev
    rcases t5:decide (x.dc<L)
    ·have HG:Hid (dcsOk x.dc (c.drop (k+1))=dcsOk 0 c):=by
      have:=of_decide_eq_false t5
      unfold Hid;rw[HR.out,decide_eq_true (show L<=x.dc by omega),decide_eq_true (show x.dc<4 by omega)];rfl
     refine Qc wr.heap.size (by kernel_rfl) (by kernel_rfl) ?_
     repeat (go_big_quiet_step (fail))
     refine wpQuiet_nil ?_
     intro wq hbq
     have hbw:Below w.heap.size w wq:=hb.trans (hbq.mono (by omega))
     go_wp2_with fail
     go_roundw
     case rel=>exact⟨k+1,x.dc,by omega,by go_num,HG.out,HQ.out,fun h=>absurd h (Nat.succ_ne_zero k),g1,hbw⟩
     case measure=>simp[intOf];omega
    ·have HF:Hid (Qm c=false):=by
      have:=of_decide_eq_true t5
      unfold Hid Qm;rw[HR.out,decide_eq_false (show ¬L<=x.dc by omega)];rfl
     refine Qc wr.heap.size (by kernel_rfl) (by kernel_rfl) ?_
     repeat (go_big_quiet_step (fail))
     refine wpQuiet_nil ?_
     intro wq hbq
     have hbw:Below w.heap.size w wq:=hb.trans (hbq.mono (by omega))
     go_wp2_with fail
     go_ret
     exact⟨Qf HF.out.symm,hbw⟩
  ·obtain rfl:k=c.length:=by omega
   have HD:Hid (dcsOk 0 c=true):=by
    have:=hrel.out
    rw[List.drop_of_length_le (Nat.le_refl _),dcsOk]at this
    exact this.symm
   clear hrel hpr hz0 b3
   go_wp2_with fail
   obtain⟨wo,rfl⟩:∃ wo:World,wo=wr:=⟨_,rfl⟩
   go_loopw [43] (fun i wr=>∃ k:Nat,k<=4/\i=.int .i64 k/\Hid (((List.range k).all fun (dc:Nat)=>runsR none (partL c dc))=true)/\Below w.heap.size w wr) (fun i _=>4-(intOf i).toNat)
   case atStart=>exact⟨0,Nat.zero_le _,rfl,rfl,hb⟩
   case round=>
    clear hb hsz
    obtain⟨k,hk,rfl,hrel,hb⟩:=hrel
    have hsz:=hb.size
    by_cases hlt:k<4
    ·have HA:Hid (((List.range (k+1)).all fun (dc:Nat)=>runsR none (partL c dc))=runsR none (partL c k)):=by
      unfold Hid;rw[List.range_succ,List.all_append,hrel.out];simp
     have hpl:=QK c k
     go_wp2_with fail
     refine (Yp c k _ wr (HS.out.imp hb hsz fun _ _ _ h=>h) (by omega)).mono ?_
     rintro e w1 ⟨v1,rfl,ho1,hb1⟩
     have hs1:=hb1.size
     have HO1:=hid (ho1.sl (by unfold Big;omega))
     clear ho1
     go_wp2_with fail
     refine (qQm (partL c k) _ w1 HO1.out).mono ?_
     rintro e w2 ⟨rfl,hb2⟩
     have hB2:Below w.heap.size w w2:=(hb.trans (hb1.mono hsz)).trans (hb2.mono (by omega))
     clear hb1 hb2
     rcases hq:runsR none (partL c k)
     ·have HF:Hid (Qm c=false):=by
       unfold Hid Qm
       rw[HD.out,Bool.true_and]
       refine List.all_eq_false.2 ⟨k,List.mem_range.2 hlt,?_⟩
       rw[hq];simp
      go_wp2_with fail
      go_ret
      exact⟨Qf HF.out.symm,hB2⟩
     ·have HA2:Hid (((List.range (k+1)).all fun (dc:Nat)=>runsR none (partL c dc))=true):=by unfold Hid;rw[HA.out,hq]
      go_wp2_with fail
      go_roundw
      case rel=>exact⟨k+1,by omega,by go_num,HA2.out,hB2⟩
      case measure=>simp[intOf];omega
    ·obtain rfl:k=4:=by omega
     have HT:Hid (Qm c=true):=by unfold Hid Qm;rw[HD.out,hrel.out];rfl
     go_wp2_with fail
     go_ret
     exact⟨Qf HT.out.symm,hb⟩
def rLeq (a b:List Sp):Bool:=decide ((ctxBy a b 2).length=0)
theorem Vb (a b:List Sp)(va vb:Value)(w:World)(ha:SlP w w.heap.size 3 SpE va a)(hb:SlP w w.heap.size 3 SpE vb b)(hN:a.length<=50000)(hN':b.length<=50000)(hR:SpsOk a)(hR':SpsOk b) :
  Calls Tryz.prog 77 #[va,vb] w fun e w'=>e=.returned (.bool (rLeq a b))/\Below w.heap.size w w':=by
 go_enter Tryz.func77,Tryz.ntmps77
 go_wp2_with fail
 refine (VR a b 2 _ _ w ha hb hN hN' hR hR' (by simp)).mono ?_
 rintro e w3 ⟨v3,rfl,ho3,hb3⟩
 obtain⟨A5,c5,rfl⟩:=ho3.shape
 have HR0:Hid (rLeq a b=decide ((ctxBy a b 2).length=0)):=rfl
 have hl:=YI a b 2
 clear ho3
 generalize ctxBy a b 2=C at *
 rcases hz:decide (C.length=0)
 ·have hz2:C.length≠0:=by simpa using hz
  have HZ:=hid hz
  clear hz
  go_wp2_with fail
  go_ret
  exact⟨Qf (by rw[HR0.out,HZ.out];simpa using hz2),hb3⟩
 ·have hz2:C.length=0:=by simpa using hz
  have HZ:=hid hz
  clear hz
  go_wp2_with fail
  go_ret
  exact⟨Qf (by rw[HR0.out,HZ.out]),hb3⟩
theorem Xd {c:List Sp}(h:Qm c=true):SpsOk c:=fun s hs=>by
 have hd:=ZQ c 0 (by unfold Qm at h;simp at h;exact h.1) s hs
 obtain⟨i,hi⟩:∃ i:Nat,(i:Int)=s.dc:=⟨s.dc.toNat,by omega⟩
 have hr:=Qw h (i:=i) (by omega)
 have hm:(s.fr,s.hi)∈partL c (i:Int):=by
  unfold partL
  exact List.mem_map.2 ⟨s,List.mem_filter.2 ⟨hs,by simp[hi]⟩,rfl⟩
 have:=Ka _ none hr _ hm
 unfold runOk at this
 exact⟨by show 0<=s.fr;simp at this;omega,by show s.fr<=_;simp at this;omega,by show 0<=s.hi;simp at this;omega,by show s.hi<=_;simp at this;omega⟩
def r9R (t:Tr)(c:List Sp):Bool:=t.right 5&&(Qm c&&rLeq (ctxOf t.dots) c)
theorem zZw (t:Tr)(c:List Sp):caR t c=r9R t c:=by
 unfold caR r9R cLeq rLeq
 cases h:t.right 5
 ·rfl
 ·rw[Qq (Q0 t 5 h)];rfl
theorem qQn (t:Tr)(c:List Sp)(ve vk vc:Value)(w:World)(h:t.rd w w.heap.size ve vk)(hc:SlP w w.heap.size 3 SpE vc c)(hN:t.sz<=4000)(hN':c.length<=20000) :
  Calls Tryz.prog 38 #[.agg #[ve,vk,vc]] w fun e w'=>e=.returned (.bool (r9R t c))/\Below w.heap.size w w':=by
 have HC:Hid (∀ w',Below w.heap.size w w'->t.rd w' w'.heap.size ve vk):=fun w' hb=>Qi hb hb.size _ _ _ h
 have HS:Hid (∀ w',Below w.heap.size w w'->SlP w' w'.heap.size 3 SpE vc c):=fun w' hb=>hc.imp hb hb.size fun _ _ _ h=>h
 have hd1:=QL t.dots
 have hd2:=Zb t
 have hcl:(ctxOf t.dots).length<=50000:=by omega
 have HBL:Hid ((ctxOf t.dots).length<=Big):=by unfold Hid Big;omega
 obtain⟨A3,n3,A4,n4,rfl,rfl⟩:=Qj h
 obtain⟨A5,n5,rfl,_⟩:=hc
 clear h
 have hb0:Below w.heap.size w (w.alloc (.cells #[.slice A3 t.es.length n3,.slice A4 t.ks.length n4,.slice A5 c.length n5] 29)):=(Below.refl _ w).alloc (Nat.le_refl _) _
 have HB:Hid (∀ w',Below (w.heap.size+1) (w.alloc (.cells #[.slice A3 t.es.length n3,.slice A4 t.ks.length n4,.slice A5 c.length n5] 29)) w'->Below w.heap.size w w'/\t.rd w' w'.heap.size (.slice A3 t.es.length n3) (.slice A4 t.ks.length n4)/\SlP w' w'.heap.size 3 SpE (.slice A5 c.length n5) c/\(w'.cell? ⟨w.heap.size,0,none⟩=some (.slice A3 t.es.length n3)/\w'.cell? ⟨w.heap.size,1,none⟩=some (.slice A4 t.ks.length n4)/\w'.cell? ⟨w.heap.size,2,none⟩=some (.slice A5 c.length n5))):=fun w' hb=>by
  have hB:=hb0.trans (hb.mono (by omega))
  refine⟨hB,HC.out _ hB,HS.out _ hB,?_,?_,?_⟩
  ·rw[hb.cell (p:=⟨w.heap.size,0,none⟩) (by simp),World.cell?_alloc_new];rfl
  ·rw[hb.cell (p:=⟨w.heap.size,1,none⟩) (by simp),World.cell?_alloc_new];rfl
  ·rw[hb.cell (p:=⟨w.heap.size,2,none⟩) (by simp),World.cell?_alloc_new];rfl
 go_enter Tryz.func38,Tryz.ntmps38
 cases r1:t.right 5
 ·have HR1:=hid r1
  have HF:Hid (r9R t c=false):=by unfold Hid r9R;rw[r1];rfl
  clear r1
  have f0:=Qh (B:=w.heap.size+1) (w:=w.alloc (.cells #[.slice A3 t.es.length n3,.slice A4 t.ks.length n4,.slice A5 c.length n5] 29)) (b:=w.heap.size) (o:=0) (v:=.slice A3 t.es.length n3) (by simp) (by omega)
  have f1:=Qh (B:=w.heap.size+1) (w:=w.alloc (.cells #[.slice A3 t.es.length n3,.slice A4 t.ks.length n4,.slice A5 c.length n5] 29)) (b:=w.heap.size) (o:=1) (v:=.slice A4 t.ks.length n4) (by simp) (by omega)
  have f2:=Qh (B:=w.heap.size+1) (w:=w.alloc (.cells #[.slice A3 t.es.length n3,.slice A4 t.ks.length n4,.slice A5 c.length n5] 29)) (b:=w.heap.size) (o:=2) (v:=.slice A5 c.length n5) (by simp) (by omega)
  go_upto_region 1 with (fail)
  refine Qc (w.heap.size+1) (by kernel_rfl) (by kernel_rfl) ?_
  repeat (go_big_quiet_step (first|(go_at_call 48;exact Calls.far_all (by simp) (fun w' hb'=>HR1.out▸QO t w' _ _ (HB.out w' hb').2.1))|(go_at_call 76;exact Calls.far_all (by simp) (fun w' hb'=>HR2.out▸Z4 c _ w' (HB.out w' hb').2.2.1 (by omega)))))
  refine wpQuiet_nil ?_
  intro wq hbq
  go_wp2_with fail
  go_ret
  exact⟨Qf HF.out.symm,(HB.out _ hbq).1⟩
 have HR1:=hid r1
 cases r2:Qm c
 ·have HR2:=hid r2
  have HF:Hid (r9R t c=false):=by unfold Hid r9R;rw[r1,r2];rfl
  clear r1 r2
  have f0:=Qh (B:=w.heap.size+1) (w:=w.alloc (.cells #[.slice A3 t.es.length n3,.slice A4 t.ks.length n4,.slice A5 c.length n5] 29)) (b:=w.heap.size) (o:=0) (v:=.slice A3 t.es.length n3) (by simp) (by omega)
  have f1:=Qh (B:=w.heap.size+1) (w:=w.alloc (.cells #[.slice A3 t.es.length n3,.slice A4 t.ks.length n4,.slice A5 c.length n5] 29)) (b:=w.heap.size) (o:=1) (v:=.slice A4 t.ks.length n4) (by simp) (by omega)
  have f2:=Qh (B:=w.heap.size+1) (w:=w.alloc (.cells #[.slice A3 t.es.length n3,.slice A4 t.ks.length n4,.slice A5 c.length n5] 29)) (b:=w.heap.size) (o:=2) (v:=.slice A5 c.length n5) (by simp) (by omega)
  go_upto_region 1 with (fail)
  refine Qc (w.heap.size+1) (by kernel_rfl) (by kernel_rfl) ?_
  repeat (go_big_quiet_step (first|(go_at_call 48;exact Calls.far_all (by simp) (fun w' hb'=>HR1.out▸QO t w' _ _ (HB.out w' hb').2.1))|(go_at_call 76;exact Calls.far_all (by simp) (fun w' hb'=>HR2.out▸Z4 c _ w' (HB.out w' hb').2.2.1 (by omega)))))
  refine wpQuiet_nil ?_
  intro wq hbq
  go_wp2_with fail
  go_ret
  exact⟨Qf HF.out.symm,(HB.out _ hbq).1⟩
 have HR2:=hid r2
 have HF:Hid (r9R t c=rLeq (ctxOf t.dots) c):=by unfold Hid r9R;rw[r1,r2];rfl
 have HRN:Hid (∀ d∈t.dots,0<=d.n/\d.n<=1099511627778):=KY r1
 have HS1:=hid (Xb (Q0 t 5 r1))
 have HS2:=hid (Xd r2)
 clear r1 r2 hd1 hd2
 have hr3:rLeq (ctxOf t.dots) c=rLeq (ctxOf t.dots) c:=rfl
 cases r3:rLeq (ctxOf t.dots) c
 ·have HR3:=hid r3
  clear r3
  go_upto_region 1 with (fail)
  go_region_held3 (fun w'=>w'.cell? ⟨w.heap.size,0,none⟩=some (.slice A3 t.es.length n3)/\w'.cell? ⟨w.heap.size,1,none⟩=some (.slice A4 t.ks.length n4)/\w'.cell? ⟨w.heap.size,2,none⟩=some (.slice A5 c.length n5))
   (first|go_keep|exact (HB.out _ hb4.out).2.2.2|exact (HB.out _ hb3.out).2.2.2|exact (HB.out _ hb2.out).2.2.2|exact (HB.out _ hb1.out).2.2.2)
   (first
       |(go_at_call 48;go_loud ((refine (QO t _ _ _ (HB.out _ (by go_grown)).2.1).mono ?_);rw[HR1.out];rintro e w1 ⟨rfl,hb⟩;have hb1:Hid (Below (w.heap.size+1) (w.alloc (.cells #[.slice A3 t.es.length n3,.slice A4 t.ks.length n4,.slice A5 c.length n5] 29)) w1):=(Below.trans (by go_grown) (hb.mono (by simp)))))
       |(go_at_call 76;go_loud ((refine (Z4 c _ w1 (HB.out _ hb1.out).2.2.1 (by omega)).mono ?_);rw[HR2.out];rintro e w2 ⟨rfl,hb⟩;have hb2:=hid (hb1.out.trans (hb.mono (by have:=hb1.out.size;simpa using this)))))
       |(go_at_call 78;go_loud ((refine (Zl t w2 _ _ (HB.out _ hb2.out).2.1 (by omega) HRN.out).mono ?_);rintro e w3 ⟨v3,rfl,ho3,hb⟩;have hb3:=hid (hb2.out.trans (hb.mono (by have:=hb2.out.size;simpa using this)));have hsl3:=hid (ho3.sl HBL.out);obtain⟨A9,c9,hv9⟩:=ho3.shape;subst hv9;clear ho3))
       |(go_at_call 77;go_loud ((refine (Vb (ctxOf t.dots) c _ _ w3 hsl3.out (HB.out _ hb3.out).2.2.1 hcl (by omega) HS1.out HS2.out).mono ?_);rw[HR3.out];rintro e w4 ⟨rfl,hb⟩;have hb4:=hid (hb3.out.trans (hb.mono (by have:=hb3.out.size;simpa using this))))))
  go_wp2_with fail
  go_ret
  exact⟨Qf (by rw[HF.out,HR3.out]),(HB.out _ hb4.out).1⟩
 ·have HR3:=hid r3
  clear r3
  go_upto_region 1 with (fail)
  go_region_held3 (fun w'=>w'.cell? ⟨w.heap.size,0,none⟩=some (.slice A3 t.es.length n3)/\w'.cell? ⟨w.heap.size,1,none⟩=some (.slice A4 t.ks.length n4)/\w'.cell? ⟨w.heap.size,2,none⟩=some (.slice A5 c.length n5))
   (first|go_keep|exact (HB.out _ hb4.out).2.2.2|exact (HB.out _ hb3.out).2.2.2|exact (HB.out _ hb2.out).2.2.2|exact (HB.out _ hb1.out).2.2.2)
   (first
       |(go_at_call 48;go_loud ((refine (QO t _ _ _ (HB.out _ (by go_grown)).2.1).mono ?_);rw[HR1.out];rintro e w1 ⟨rfl,hb⟩;have hb1:Hid (Below (w.heap.size+1) (w.alloc (.cells #[.slice A3 t.es.length n3,.slice A4 t.ks.length n4,.slice A5 c.length n5] 29)) w1):=(Below.trans (by go_grown) (hb.mono (by simp)))))
       |(go_at_call 76;go_loud ((refine (Z4 c _ w1 (HB.out _ hb1.out).2.2.1 (by omega)).mono ?_);rw[HR2.out];rintro e w2 ⟨rfl,hb⟩;have hb2:=hid (hb1.out.trans (hb.mono (by have:=hb1.out.size;simpa using this)))))
       |(go_at_call 78;go_loud ((refine (Zl t w2 _ _ (HB.out _ hb2.out).2.1 (by omega) HRN.out).mono ?_);rintro e w3 ⟨v3,rfl,ho3,hb⟩;have hb3:=hid (hb2.out.trans (hb.mono (by have:=hb2.out.size;simpa using this)));have hsl3:=hid (ho3.sl HBL.out);obtain⟨A9,c9,hv9⟩:=ho3.shape;subst hv9;clear ho3))
       |(go_at_call 77;go_loud ((refine (Vb (ctxOf t.dots) c _ _ w3 hsl3.out (HB.out _ hb3.out).2.2.1 hcl (by omega) HS1.out HS2.out).mono ?_);rw[HR3.out];rintro e w4 ⟨rfl,hb⟩;have hb4:=hid (hb3.out.trans (hb.mono (by have:=hb3.out.size;simpa using this))))))
  go_wp2_with fail
  go_ret
  exact⟨Qf (by rw[HF.out,HR3.out]),(HB.out _ hb4.out).1⟩
def sml9 (t:Tr)(c:List Sp)(n:Int):Bool:=smlB t n&&decide ((c.length:Int)<=n)
theorem qQo (t:Tr)(c:List Sp)(n:Int)(ve vk vc:Value)(w:World)(h:t.rd w w.heap.size ve vk)(hc:SlP w w.heap.size 3 SpE vc c)(hn:0<=n)(hn':n<=1000) :
  Calls Tryz.prog 35 #[.agg #[ve,vk,vc],.int .i64 n] w fun e w'=>e=.returned (.bool (sml9 t c n))/\Below w.heap.size w w':=by
 have HC:Hid (∀ w',Below w.heap.size w w'->t.rd w' w'.heap.size ve vk):=fun w' hb=>Qi hb hb.size _ _ _ h
 obtain⟨A3,n3,A4,n4,rfl,rfl⟩:=Qj h
 obtain⟨A5,n5,rfl,_,hcl,_⟩:=hc
 unfold Big at hcl
 clear h
 have hb0:Below w.heap.size w (w.alloc (.cells #[.slice A3 t.es.length n3,.slice A4 t.ks.length n4,.slice A5 c.length n5] 29)):=(Below.refl _ w).alloc (Nat.le_refl _) _
 go_enter Tryz.func35,Tryz.ntmps35
 go_wp2_with fail
 refine (V5 t _ _ _ n (HC.out _ hb0) hn hn').mono ?_
 rintro e w1 ⟨rfl,hb1⟩
 rw[show decide (0<=t.room n 8)=smlB t n from rfl]
 have hB1:Below w.heap.size w w1:=hb0.trans (hb1.mono (by simp))
 have c2:w1.cell? ⟨w.heap.size,2,none⟩=some (.slice A5 c.length n5):=by rw[hb1.cell (p:=⟨w.heap.size,2,none⟩) (by simp),World.cell?_alloc_new];rfl
 cases hs:smlB t n
 ·have HF:Hid (sml9 t c n=false):=by unfold Hid sml9;rw[hs];rfl
  clear hs
  go_wp2_with fail
  go_ret
  exact⟨Qf HF.out.symm,hB1⟩
 ·have HF:Hid (sml9 t c n=decide ((c.length:Int)<=n)):=by unfold Hid sml9;rw[hs];rfl
  clear hs
  go_wp2_with fail
  go_ret
  exact⟨Qf HF.out.symm,hB1⟩
theorem qV1 (ca cb:List Sp)(n:Nat)(a b:Tr)(va ka vb kb vca vcb:Value)(w:World)(ha:a.rd w w.heap.size va ka)(hb:b.rd w w.heap.size vb kb)(hca:SlP w w.heap.size 3 SpE vca ca)(hcb:SlP w w.heap.size 3 SpE vcb cb)(hoa:a.Ord)(hob:b.Ord)(hda:a.dep<=n)(hdb:b.dep<=n)(hza:a.sz<=100000)(hzb:b.sz<=100000)(hra:Qm ca=true)(hrb:Qm cb=true)(hN1:ca.length<=20000)(hN2:cb.length<=20000) :
  Calls Tryz.prog 67 #[.agg #[va,ka,vca],.agg #[vb,kb,vcb]] w (RetC w (joinT n ca cb a b) (ctxBy ca cb 0)):=by
 have HA:=hid ha
 have HB:=hid hb
 have HCA:Hid (∀ w',Below w.heap.size w w'->SlP w' w'.heap.size 3 SpE vca ca):=fun w' hb=>hca.imp hb hb.size fun _ _ _ h=>h
 have HCB:Hid (∀ w',Below w.heap.size w w'->SlP w' w'.heap.size 3 SpE vcb cb):=fun w' hb=>hcb.imp hb hb.size fun _ _ _ h=>h
 have HR1:=hid hra
 have HR2:=hid hrb
 have hul:=Zj ca cb 0 4
 have HUL:Hid ((ctxBy ca cb 0).length<=Big):=by unfold Hid ctxBy Big;omega
 obtain⟨A1,n1,A2,n2,rfl,rfl⟩:=Qj ha
 obtain⟨A3,n3,A4,n4,rfl,rfl⟩:=Qj hb
 obtain⟨A5,n5,rfl,_⟩:=hca
 obtain⟨A6,n6,rfl,_⟩:=hcb
 have HX:Hid (∀ W,Below (w.heap.size+3) (((w.alloc (.cells #[.slice A1 a.es.length n1,.slice A2 a.ks.length n2,.slice A5 ca.length n5] 29)).alloc (.cells #[.slice A3 b.es.length n3,.slice A4 b.ks.length n4,.slice A6 cb.length n6] 29)).alloc (.cells #[.slice none 0 0,.slice none 0 0,.slice none 0 0] 29)) W->Below w.heap.size w W/\W.heap[w.heap.size+2]?=some (.cells #[.slice none 0 0,.slice none 0 0,.slice none 0 0] 29 (0,0))/\w.heap.size+3<=W.heap.size/\(W.cell? ⟨w.heap.size,0,none⟩=some (.slice A1 a.es.length n1)/\W.cell? ⟨w.heap.size,1,none⟩=some (.slice A2 a.ks.length n2)/\W.cell? ⟨w.heap.size,2,none⟩=some (.slice A5 ca.length n5)/\W.cell? ⟨w.heap.size+1,0,none⟩=some (.slice A3 b.es.length n3)/\W.cell? ⟨w.heap.size+1,1,none⟩=some (.slice A4 b.ks.length n4)/\W.cell? ⟨w.heap.size+1,2,none⟩=some (.slice A6 cb.length n6))):=fun W hW=>by
  have g0:W.heap[w.heap.size]?=some (.cells #[.slice A1 a.es.length n1,.slice A2 a.ks.length n2,.slice A5 ca.length n5] 29 (0,0)):=(hW.block _ (by omega)).trans ((Qg (by simp<;>omega)).trans ((Qg (by simp)).trans (Qd rfl)))
  have g1:W.heap[w.heap.size+1]?=some (.cells #[.slice A3 b.es.length n3,.slice A4 b.ks.length n4,.slice A6 cb.length n6] 29 (0,0)):=(hW.block _ (by omega)).trans ((Qg (by simp)).trans (Qd (by simp)))
  have g2:W.heap[w.heap.size+2]?=some (.cells #[.slice none 0 0,.slice none 0 0,.slice none 0 0] 29 (0,0)):=(hW.block _ (by omega)).trans (Qd (by simp))
  exact⟨((((Below.refl _ w).alloc (Nat.le_refl _) _).alloc (by simp) _).alloc (by simp;omega) _).trans (hW.mono (by omega)),g2,by have:=hW.size;simpa using this,Qa (i:=0) g0,Qa (i:=1) g0,Qa (i:=2) g0,Qa (i:=0) g1,Qa (i:=1) g1,Qa (i:=2) g1⟩
 have hneA:w.heap.size+1+1≠w.heap.size:=by omega
 have hneB:w.heap.size≠w.heap.size+1+1:=by omega
 clear ha hb
 go_enter Tryz.func67,Tryz.ntmps67
 go_upto_region 1 with (fail)
 go_region_held3 (fun w'=>w'.cell? ⟨w.heap.size,0,none⟩=some (.slice A1 a.es.length n1)/\w'.cell? ⟨w.heap.size,1,none⟩=some (.slice A2 a.ks.length n2)/\w'.cell? ⟨w.heap.size,2,none⟩=some (.slice A5 ca.length n5)/\w'.cell? ⟨w.heap.size+1,0,none⟩=some (.slice A3 b.es.length n3)/\w'.cell? ⟨w.heap.size+1,1,none⟩=some (.slice A4 b.ks.length n4)/\w'.cell? ⟨w.heap.size+1,2,none⟩=some (.slice A6 cb.length n6))
  (first|go_keep|exact (HX.out _ hbk2.out).2.2.2|exact (HX.out _ hbk1.out).2.2.2)
  (first
      |(go_at_call 111;go_loud ((refine (qJ2 ca cb (by omega) (by omega) n a b _ _ _ _ _ _ _ (Qi (HX.out _ (by go_grown)).1 (HX.out _ (by go_grown)).1.size _ _ _ HA.out) (Qi (HX.out _ (by go_grown)).1 (HX.out _ (by go_grown)).1.size _ _ _ HB.out) (HCA.out _ (HX.out _ (by go_grown)).1) (HCB.out _ (HX.out _ (by go_grown)).1) hoa hob hda hdb hza hzb).mono ?_);rintro e w1 ⟨ve1,vk1,rfl,hrd1,hb⟩;obtain⟨Av,nv,Aw,nw,rfl,rfl⟩:=Ql hrd1;have HR:=hid hrd1;have hbk1:Hid (Below (w.heap.size+3) (((w.alloc (.cells #[.slice A1 a.es.length n1,.slice A2 a.ks.length n2,.slice A5 ca.length n5] 29)).alloc (.cells #[.slice A3 b.es.length n3,.slice A4 b.ks.length n4,.slice A6 cb.length n6] 29)).alloc (.cells #[.slice none 0 0,.slice none 0 0,.slice none 0 0] 29)) w1):=(Below.trans (by go_grown) (hb.mono (by simp)));clear hrd1 hb))
      |(go_at_call 112;go_loud ((refine (YW ca cb _ _ w1 (HCA.out _ (HX.out _ hbk1.out).1) (HCB.out _ (HX.out _ hbk1.out).1) HR1.out HR2.out hN1 hN2).mono ?_);rintro e w2 ⟨v2,rfl,ho2,hb2⟩;obtain⟨A7,c7,hv7⟩:=ho2.shape;subst hv7;have HO2:=hid ho2;have hbk2:=hid (hbk1.out.trans (hb2.mono (HX.out _ hbk1.out).2.2.1));have HG2:=hid (HX.out _ hbk2.out).2.1;have k0:w2.cell? ⟨w.heap.size+2,0,none⟩=some (.slice none 0 0):=Qa (i:=0) HG2.out;have k1:w2.cell? ⟨w.heap.size+2,1,none⟩=some (.slice none 0 0):=Qa (i:=1) HG2.out;have k2:w2.cell? ⟨w.heap.size+2,2,none⟩=some (.slice none 0 0):=Qa (i:=2) HG2.out;have z0:=Qb (i:=0) HG2.out;have z1:=Qb (i:=1) HG2.out;have z2:=Qb (i:=2) HG2.out;have HB2:=hid hb2;clear ho2 hb2)))
 all_goals (
  go_wp2_with fail
  have hs2:w.heap.size+3<=w2.heap.size:=(HX.out _ hbk2.out).2.2.1
  have hs1:w.heap.size+3<=w1.heap.size:=(HX.out _ hbk1.out).2.2.1
  have hs12:=HB2.out.size
  obtain⟨r0,r1,r2,hK,hS⟩:=box3 HG2.out (.slice Av (joinT n ca cb a b).es.length nv) (.slice Aw (joinT n ca cb a b).ks.length nw) (.slice A7 (ctxBy ca cb 0).length c7)
  have hBW:Below w.heap.size w (((w2.setCell ⟨w.heap.size+2,0,none⟩ (.slice Av (joinT n ca cb a b).es.length nv)).setCell ⟨w.heap.size+2,1,none⟩ (.slice Aw (joinT n ca cb a b).ks.length nw)).setCell ⟨w.heap.size+2,2,none⟩ (.slice A7 (ctxBy ca cb 0).length c7)):=(((HX.out _ hbk2.out).1.setCell (by simp) _).setCell (by simp) _).setCell (by simp) _
  clear k0 k1 k2 z0 z1 z2
  generalize (((w2.setCell ⟨w.heap.size+2,0,none⟩ (.slice Av (joinT n ca cb a b).es.length nv)).setCell ⟨w.heap.size+2,1,none⟩ (.slice Aw (joinT n ca cb a b).ks.length nw)).setCell ⟨w.heap.size+2,2,none⟩ (.slice A7 (ctxBy ca cb 0).length c7))=W at *
  refine bodyPost_ret (v:=.agg #[.slice Av (joinT n ca cb a b).es.length nv,.slice Aw (joinT n ca cb a b).ks.length nw,.slice A7 (ctxBy ca cb 0).length c7]) (by simp[results,Tryz.results67,go_sem,r0,r1,r2]) rfl ⟨_,_,_,rfl,?_,?_,hBW⟩
  ·exact Qs (fun b hb=>(hK b (by have:=hb.1;simp only[World.size_alloc,World.size_drew]at this;omega)).trans (HB2.out.block b hb.2)) (fun b hb=>⟨by have:=hb.1;simp only[World.size_alloc,World.size_drew]at this;omega,by have:=hb.2;omega⟩) _ _ _ HR.out
  ·exact (HO2.out.sla HUL.out).up (fun b hb=>hK b (by have:=hb.1;omega)) (fun b hb=>⟨by have:=hb.1;omega,by have:=hb.2.1;omega⟩) (fun _ _ _ h=>h))
theorem Kf {t:Tr}{c:List Sp}(h:caR t c=true):t.right 5=true:=by unfold caR at h;simp at h;exact h.1
theorem Kg {t:Tr}{c:List Sp}(h:caR t c=true):Qm c=true:=by rw[zZw]at h;unfold r9R at h;simp at h;exact h.2.1
theorem qV2 {t:Tr}{c:List Sp}(h:caR t c=true):t.Ord:=ZL t 5 (Kf h)
theorem qZx {t:Tr}{c:List Sp}(h:caR t c=true):t.dep<=6:=by have:=qQe t 5 (Kf h);omega
def jnE (a b:Tr)(ca cb:List Sp):Int:=if caR a ca&&caR b cb then 0 else 1
def jnT (a b:Tr)(ca cb:List Sp):Tr:=if caR a ca&&caR b cb then joinT 6 ca cb a b else .mk [] []
def jnC (a b:Tr)(ca cb:List Sp):List Sp:=if caR a ca&&caR b cb then ctxBy ca cb 0 else []
theorem qV3 (ca cb:List Sp)(a b:Tr)(va ka vb kb vca vcb:Value)(w:World)(ha:a.rd w w.heap.size va ka)(hb:b.rd w w.heap.size vb kb)(hca:SlP w w.heap.size 3 SpE vca ca)(hcb:SlP w w.heap.size 3 SpE vcb cb)(hza:a.sz<=4000)(hzb:b.sz<=4000)(hN1:ca.length<=20000)(hN2:cb.length<=20000) :
  Calls Tryz.prog 33 #[.agg #[va,ka,vca],.agg #[vb,kb,vcb]] w (RetCE w (jnT a b ca cb) (jnC a b ca cb) (jnE a b ca cb)):=by
 have HA:=hid ha
 have HB:=hid hb
 have HCA:Hid (∀ w',Below w.heap.size w w'->SlP w' w'.heap.size 3 SpE vca ca):=fun w' hb=>hca.imp hb hb.size fun _ _ _ h=>h
 have HCB:Hid (∀ w',Below w.heap.size w w'->SlP w' w'.heap.size 3 SpE vcb cb):=fun w' hb=>hcb.imp hb hb.size fun _ _ _ h=>h
 obtain⟨A1,n1,A2,n2,rfl,rfl⟩:=Qj ha
 obtain⟨A3,n3,A4,n4,rfl,rfl⟩:=Qj hb
 obtain⟨A5,n5,rfl,_⟩:=hca
 obtain⟨A6,n6,rfl,_⟩:=hcb
 have HX:Hid (∀ W,Below (w.heap.size+3) (((w.alloc (.cells #[.slice A1 a.es.length n1,.slice A2 a.ks.length n2,.slice A5 ca.length n5] 29)).alloc (.cells #[.slice A3 b.es.length n3,.slice A4 b.ks.length n4,.slice A6 cb.length n6] 29)).alloc (.cells #[.slice none 0 0,.slice none 0 0,.slice none 0 0] 29)) W->Below w.heap.size w W/\W.heap[w.heap.size+2]?=some (.cells #[.slice none 0 0,.slice none 0 0,.slice none 0 0] 29 (0,0))/\w.heap.size+3<=W.heap.size/\(W.cell? ⟨w.heap.size,0,none⟩=some (.slice A1 a.es.length n1)/\W.cell? ⟨w.heap.size,1,none⟩=some (.slice A2 a.ks.length n2)/\W.cell? ⟨w.heap.size,2,none⟩=some (.slice A5 ca.length n5)/\W.cell? ⟨w.heap.size+1,0,none⟩=some (.slice A3 b.es.length n3)/\W.cell? ⟨w.heap.size+1,1,none⟩=some (.slice A4 b.ks.length n4)/\W.cell? ⟨w.heap.size+1,2,none⟩=some (.slice A6 cb.length n6))):=fun W hW=>by
  have g0:W.heap[w.heap.size]?=some (.cells #[.slice A1 a.es.length n1,.slice A2 a.ks.length n2,.slice A5 ca.length n5] 29 (0,0)):=(hW.block _ (by omega)).trans ((Qg (by simp<;>omega)).trans ((Qg (by simp)).trans (Qd rfl)))
  have g1:W.heap[w.heap.size+1]?=some (.cells #[.slice A3 b.es.length n3,.slice A4 b.ks.length n4,.slice A6 cb.length n6] 29 (0,0)):=(hW.block _ (by omega)).trans ((Qg (by simp)).trans (Qd (by simp)))
  have g2:W.heap[w.heap.size+2]?=some (.cells #[.slice none 0 0,.slice none 0 0,.slice none 0 0] 29 (0,0)):=(hW.block _ (by omega)).trans (Qd (by simp))
  exact⟨((((Below.refl _ w).alloc (Nat.le_refl _) _).alloc (by simp) _).alloc (by simp;omega) _).trans (hW.mono (by omega)),g2,by have:=hW.size;simpa using this,Qa (i:=0) g0,Qa (i:=1) g0,Qa (i:=2) g0,Qa (i:=0) g1,Qa (i:=1) g1,Qa (i:=2) g1⟩
 clear ha hb
 go_enter Tryz.func33,Tryz.ntmps33
 cases hc1:caR a ca
 ·have HR1:=hid hc1
  have HR2:Hid (caR b cb=caR b cb):=rfl
  have HE:Hid (jnE a b ca cb=1):=by unfold Hid jnE;rw[hc1];rfl
  have HTT:Hid (jnT a b ca cb=.mk [] []):=by unfold Hid jnT;rw[hc1];rfl
  have HCC:Hid (jnC a b ca cb=[]):=by unfold Hid jnC;rw[hc1];rfl
  clear hc1
  have hB0:=(HX.out _ (Below.refl _ _)).1
  go_wp2_with fail
  refine (QR a ca _ _ _ _ (Qi hB0 hB0.size _ _ _ HA.out) (HCA.out _ hB0) hza hN1).mono ?_
  rw[HR1.out]
  rintro e w1 ⟨rfl,hb1⟩
  have hbq1:=hid (hb1.mono (show w.heap.size+3<=_ by simp))
  clear hb1 hB0
  obtain⟨hB1,hG,hsq,q0,q1,q2,q3,q4,q5⟩:=HX.out w1 hbq1.out
  have HG:=hid hG
  have k0:(w1).cell? ⟨w.heap.size+2,0,none⟩=some (.slice none 0 0):=Qa (i:=0) HG.out
  have k1:(w1).cell? ⟨w.heap.size+2,1,none⟩=some (.slice none 0 0):=Qa (i:=1) HG.out
  have k2:(w1).cell? ⟨w.heap.size+2,2,none⟩=some (.slice none 0 0):=Qa (i:=2) HG.out
  have z0:=Qb (i:=0) HG.out
  have z1:=Qb (i:=1) HG.out
  have z2:=Qb (i:=2) HG.out
  clear hG
  go_wp2_with fail
  obtain⟨r0,r1,r2,hK,hS⟩:=box3 HG.out (.slice none 0 0) (.slice none 0 0) (.slice none 0 0)
  have hBW:=((hB1.setCell (p:=⟨w.heap.size+2,0,none⟩) (by simp) (.slice none 0 0)).setCell (p:=⟨w.heap.size+2,1,none⟩) (by simp) (.slice none 0 0)).setCell (p:=⟨w.heap.size+2,2,none⟩) (by simp) (.slice none 0 0)
  refine bodyPost_ret (v:=.tuple #[.agg #[.slice none 0 0,.slice none 0 0,.slice none 0 0],.int .i64 1]) (by simp[results,Tryz.results33,go_sem,r0,r1,r2]) rfl ⟨_,_,_,by rw[HE.out],?_,?_,hBW⟩
  ·rw[HTT.out];exact Qp _ _
  ·rw[HCC.out];exact SlA.nil
 cases hc2:caR b cb
 ·have HR1:=hid hc1
  have HR2:=hid hc2
  have HE:Hid (jnE a b ca cb=1):=by unfold Hid jnE;rw[hc1,hc2];rfl
  have HTT:Hid (jnT a b ca cb=.mk [] []):=by unfold Hid jnT;rw[hc1,hc2];rfl
  have HCC:Hid (jnC a b ca cb=[]):=by unfold Hid jnC;rw[hc1,hc2];rfl
  clear hc1 hc2
  have hB0:=(HX.out _ (Below.refl _ _)).1
  go_wp2_with fail
  refine (QR a ca _ _ _ _ (Qi hB0 hB0.size _ _ _ HA.out) (HCA.out _ hB0) hza hN1).mono ?_
  rw[HR1.out]
  rintro e w1 ⟨rfl,hb1⟩
  have hbq1:=hid (hb1.mono (show w.heap.size+3<=_ by simp))
  clear hb1 hB0
  obtain⟨hB1,hG,hsq,q0,q1,q2,q3,q4,q5⟩:=HX.out w1 hbq1.out
  have HG:=hid hG
  have k0:(w1).cell? ⟨w.heap.size+2,0,none⟩=some (.slice none 0 0):=Qa (i:=0) HG.out
  have k1:(w1).cell? ⟨w.heap.size+2,1,none⟩=some (.slice none 0 0):=Qa (i:=1) HG.out
  have k2:(w1).cell? ⟨w.heap.size+2,2,none⟩=some (.slice none 0 0):=Qa (i:=2) HG.out
  have z0:=Qb (i:=0) HG.out
  have z1:=Qb (i:=1) HG.out
  have z2:=Qb (i:=2) HG.out
  clear hG
  go_wp2_with fail
  refine (QR b cb _ _ _ w1 (Qi hB1 hB1.size _ _ _ HB.out) (HCB.out _ hB1) hzb hN2).mono ?_
  rw[HR2.out]
  rintro e w2 ⟨rfl,hb2⟩
  have hbq2:=hid (hbq1.out.trans (hb2.mono hsq))
  clear hb2 hB1 k0 k1 k2 z0 z1 z2 q0 q1 q2 q3 q4 q5 hsq HG
  obtain⟨hB1,hG,hsq,q0,q1,q2,q3,q4,q5⟩:=HX.out w2 hbq2.out
  have HG:=hid hG
  have k0:(w2).cell? ⟨w.heap.size+2,0,none⟩=some (.slice none 0 0):=Qa (i:=0) HG.out
  have k1:(w2).cell? ⟨w.heap.size+2,1,none⟩=some (.slice none 0 0):=Qa (i:=1) HG.out
  have k2:(w2).cell? ⟨w.heap.size+2,2,none⟩=some (.slice none 0 0):=Qa (i:=2) HG.out
  have z0:=Qb (i:=0) HG.out
  have z1:=Qb (i:=1) HG.out
  have z2:=Qb (i:=2) HG.out
  clear hG
  go_wp2_with fail
  obtain⟨r0,r1,r2,hK,hS⟩:=box3 HG.out (.slice none 0 0) (.slice none 0 0) (.slice none 0 0)
  have hBW:=((hB1.setCell (p:=⟨w.heap.size+2,0,none⟩) (by simp) (.slice none 0 0)).setCell (p:=⟨w.heap.size+2,1,none⟩) (by simp) (.slice none 0 0)).setCell (p:=⟨w.heap.size+2,2,none⟩) (by simp) (.slice none 0 0)
  refine bodyPost_ret (v:=.tuple #[.agg #[.slice none 0 0,.slice none 0 0,.slice none 0 0],.int .i64 1]) (by simp[results,Tryz.results33,go_sem,r0,r1,r2]) rfl ⟨_,_,_,by rw[HE.out],?_,?_,hBW⟩
  ·rw[HTT.out];exact Qp _ _
  ·rw[HCC.out];exact SlA.nil
 ·have HR1:=hid hc1
  have HR2:=hid hc2
  have HE:Hid (jnE a b ca cb=0):=by unfold Hid jnE;rw[hc1,hc2];rfl
  have HTT:Hid (jnT a b ca cb=joinT 6 ca cb a b):=by unfold Hid jnT;rw[hc1,hc2];rfl
  have HCC:Hid (jnC a b ca cb=ctxBy ca cb 0):=by unfold Hid jnC;rw[hc1,hc2];rfl
  have HOA:=hid (qV2 hc1)
  have HOB:=hid (qV2 hc2)
  have HDA:=hid (qZx hc1)
  have HDB:=hid (qZx hc2)
  have HPA:=hid (Kg hc1)
  have HPB:=hid (Kg hc2)
  clear hc1 hc2
  have hB0:=(HX.out _ (Below.refl _ _)).1
  go_wp2_with fail
  refine (QR a ca _ _ _ _ (Qi hB0 hB0.size _ _ _ HA.out) (HCA.out _ hB0) hza hN1).mono ?_
  rw[HR1.out]
  rintro e w1 ⟨rfl,hb1⟩
  have hbq1:=hid (hb1.mono (show w.heap.size+3<=_ by simp))
  clear hb1 hB0
  obtain⟨hB1,hG,hsq,q0,q1,q2,q3,q4,q5⟩:=HX.out w1 hbq1.out
  have HG:=hid hG
  have k0:(w1).cell? ⟨w.heap.size+2,0,none⟩=some (.slice none 0 0):=Qa (i:=0) HG.out
  have k1:(w1).cell? ⟨w.heap.size+2,1,none⟩=some (.slice none 0 0):=Qa (i:=1) HG.out
  have k2:(w1).cell? ⟨w.heap.size+2,2,none⟩=some (.slice none 0 0):=Qa (i:=2) HG.out
  have z0:=Qb (i:=0) HG.out
  have z1:=Qb (i:=1) HG.out
  have z2:=Qb (i:=2) HG.out
  clear hG
  go_wp2_with fail
  refine (QR b cb _ _ _ w1 (Qi hB1 hB1.size _ _ _ HB.out) (HCB.out _ hB1) hzb hN2).mono ?_
  rw[HR2.out]
  rintro e w2 ⟨rfl,hb2⟩
  have hbq2:=hid (hbq1.out.trans (hb2.mono hsq))
  clear hb2 hB1 k0 k1 k2 z0 z1 z2 q0 q1 q2 q3 q4 q5 hsq HG
  obtain⟨hB1,hG,hsq,q0,q1,q2,q3,q4,q5⟩:=HX.out w2 hbq2.out
  have HG:=hid hG
  have k0:(w2).cell? ⟨w.heap.size+2,0,none⟩=some (.slice none 0 0):=Qa (i:=0) HG.out
  have k1:(w2).cell? ⟨w.heap.size+2,1,none⟩=some (.slice none 0 0):=Qa (i:=1) HG.out
  have k2:(w2).cell? ⟨w.heap.size+2,2,none⟩=some (.slice none 0 0):=Qa (i:=2) HG.out
  have z0:=Qb (i:=0) HG.out
  have z1:=Qb (i:=1) HG.out
  have z2:=Qb (i:=2) HG.out
  clear hG
  go_wp2_with fail
  refine (qV1 ca cb 6 a b _ _ _ _ _ _ w2 (Qi hB1 hB1.size _ _ _ HA.out) (Qi hB1 hB1.size _ _ _ HB.out) (HCA.out _ hB1) (HCB.out _ hB1) HOA.out HOB.out HDA.out HDB.out (by omega) (by omega) HPA.out HPB.out hN1 hN2).mono ?_
  rintro e w5 ⟨ve,vk,vc,rfl,hrd5,hsl5,hb5⟩
  obtain⟨A7,n7,A8,n8,rfl,rfl⟩:=Ql hrd5
  have HS5:=hid hsl5
  obtain⟨A9,n9,hv9,_⟩:=hsl5
  subst hv9
  have HR5:=hid hrd5
  have hs25:=hb5.size
  have hs2:=hsq
  have hbq5:=hid (hbq2.out.trans (hb5.mono hsq))
  clear hrd5 hb5 hB1 k0 k1 k2 z0 z1 z2 q0 q1 q2 q3 q4 q5 hsq HG
  obtain⟨hB1,hG,hsq,q0,q1,q2,q3,q4,q5⟩:=HX.out w5 hbq5.out
  have HG:=hid hG
  have k0:(w5).cell? ⟨w.heap.size+2,0,none⟩=some (.slice none 0 0):=Qa (i:=0) HG.out
  have k1:(w5).cell? ⟨w.heap.size+2,1,none⟩=some (.slice none 0 0):=Qa (i:=1) HG.out
  have k2:(w5).cell? ⟨w.heap.size+2,2,none⟩=some (.slice none 0 0):=Qa (i:=2) HG.out
  have z0:=Qb (i:=0) HG.out
  have z1:=Qb (i:=1) HG.out
  have z2:=Qb (i:=2) HG.out
  clear hG
  go_wp2_with fail
  obtain⟨r0,r1,r2,hK,hS⟩:=box3 HG.out (.slice A7 (joinT 6 ca cb a b).es.length n7) (.slice A8 (joinT 6 ca cb a b).ks.length n8) (.slice A9 (ctxBy ca cb 0).length n9)
  have hBW:Below w.heap.size w (((w5.setCell ⟨w.heap.size+2,0,none⟩ (.slice A7 (joinT 6 ca cb a b).es.length n7)).setCell ⟨w.heap.size+2,1,none⟩ (.slice A8 (joinT 6 ca cb a b).ks.length n8)).setCell ⟨w.heap.size+2,2,none⟩ (.slice A9 (ctxBy ca cb 0).length n9)):=((hB1.setCell (by simp) _).setCell (by simp) _).setCell (by simp) _
  clear k0 k1 k2 z0 z1 z2
  generalize (((w5.setCell ⟨w.heap.size+2,0,none⟩ (.slice A7 (joinT 6 ca cb a b).es.length n7)).setCell ⟨w.heap.size+2,1,none⟩ (.slice A8 (joinT 6 ca cb a b).ks.length n8)).setCell ⟨w.heap.size+2,2,none⟩ (.slice A9 (ctxBy ca cb 0).length n9))=W at *
  refine bodyPost_ret (v:=.tuple #[.agg #[.slice A7 (joinT 6 ca cb a b).es.length n7,.slice A8 (joinT 6 ca cb a b).ks.length n8,.slice A9 (ctxBy ca cb 0).length n9],.int .i64 0]) (by simp[results,Tryz.results33,go_sem,r0,r1,r2]) rfl ⟨_,_,_,by rw[HE.out],?_,?_,hBW⟩
  ·rw[HTT.out]
   exact Qs (fun b hb=>hK b (by have:=hb.1;omega)) (fun b hb=>⟨by have:=hb.1;omega,by have:=hb.2;omega⟩) _ _ _ HR5.out
  ·rw[HCC.out]
   exact HS5.out.up (fun b hb=>hK b (by have:=hb.1;omega)) (fun b hb=>⟨by have:=hb.1;omega,by have:=hb.2;omega⟩) (fun _ _ _ h=>h)
/-! contexts by their dots -/
theorem Ym (a b:List Sp)(how:Int){i:Nat}(hi:i<4):partL (ctxBy a b how) i=byL (partL a i) (partL b i) how:=by
 rw[Xa,Yr,if_pos hi]
theorem Z5 {c:List Sp}(h:Qm c=true){i:Nat}(hi:i<4):∀ r∈partL c i,runOk r:=Ka _ none (Qw h hi)
theorem Y0 {a b:List Sp}(ha:Qm a=true)(hb:Qm b=true)(how:Int):Qm (ctxBy a b how)=true:=by
 rw[Xa]
 exact J6 fun i hi=>(Yi how (Z5 ha hi) (Z5 hb hi)).1
theorem qZy {a b:List Sp}(ha:Qm a=true)(hb:Qm b=true)(how:Int){d:Dt}(hd:d.right=true):hasC (ctxBy a b how) d=inn how (hasC a d) (hasC b d):=by
 have h1:=(Vx hd).1
 obtain⟨i,hi⟩:∃ i:Nat,(i:Int)=d.dc:=⟨d.dc.toNat,by omega⟩
 have h4:i<4:=by omega
 unfold hasC
 rw[hd,←hi,Ym a b how h4,(Yi how (Z5 ha h4) (Z5 hb h4)).2]
 simp
theorem Y1 {c:List Sp}{d:Dt}(h:hasC c d=true):d.right=true:=by unfold hasC at h;rw[Bool.and_eq_true]at h;exact h.1
theorem QH {a b:List Sp}(ha:Qm a=true)(hb:Qm b=true)(d:Dt):hasC (ctxBy a b 0) d=(hasC a d||hasC b d):=by
 cases hd:d.right
 ·unfold hasC;simp[hd]
 ·rw[qZy ha hb 0 hd];rfl
theorem qJ6 {a b:List Sp}(ha:Qm a=true)(hb:Qm b=true)(d:Dt):hasC (ctxBy a b 2) d=(hasC a d&&!hasC b d):=by
 cases hd:d.right
 ·unfold hasC;simp[hd]
 ·rw[qZy ha hb 2 hd];rfl
theorem qV4 {l:List (Int×Int)}(h:∀ r∈l,runOk r){n:Int}(hn:hasL l n=true):1<=n/\n<=1099511627776:=by
 unfold hasL at hn
 obtain⟨r,hr,h1⟩:=List.any_eq_true.1 hn
 have:=h r hr
 unfold runOk at this
 unfold inR at h1
 simp at h1
 omega
theorem qYk {i:Nat}(hi:i<4){n:Int}(h:1<=n/\n<=1099511627776):(⟨i,n⟩:Dt).right=true:=by
 unfold Dt.right;simp;omega
theorem qZz {a b:List Sp}(ha:Qm a=true)(hb:Qm b=true)(h:∀ d,hasC a d=hasC b d):a=b:=by
 rw[←K4 ha,←K4 hb]
 refine qX6 fun i hi=>YF _ _ none none (Qw ha hi) (Qw hb hi) fun n=>?_
 by_cases hn:1<=n/\n<=1099511627776
 ·have:=h ⟨i,n⟩
  unfold hasC at this
  rw[qYk hi hn]at this
  simpa using this
 ·have e1:hasL (partL a i) n=false:=by
   cases hc:hasL (partL a i) n
   ·rfl
   ·exact absurd (qV4 (Z5 ha hi) hc) hn
  have e2:hasL (partL b i) n=false:=by
   cases hc:hasL (partL b i) n
   ·rfl
   ·exact absurd (qV4 (Z5 hb hi) hc) hn
  rw[e1,e2]
theorem Kh:Qm []=true:=by kernel_rfl
theorem XH (d:Dt):hasC [] d=false:=by unfold hasC partL hasL;simp
theorem zXn {c:List Sp}(hc:Qm c=true):c=[]↔∀ d,hasC c d=false:=by
 constructor
 ·rintro rfl;exact XH
 ·intro h;exact qZz hc Kh fun d=>by rw[h,XH]
theorem qYl {a b:List Sp}(ha:Qm a=true)(hb:Qm b=true):cLeq a b=true↔∀ d,hasC a d=true->hasC b d=true:=by
 unfold cLeq
 rw[ha,hb,Bool.true_and,Bool.true_and,decide_eq_true_eq,List.length_eq_zero_iff,zXn (Y0 ha hb 2)]
 refine forall_congr' fun d=>?_
 rw[qJ6 ha hb]
 cases hasC a d<;>cases hasC b d<;>simp
/-! right trees by their leaves -/
theorem qV5:∀ (es:List En) (p:Option Dt),(es.Pairwise fun a b=>a.dot.lt b.dot=true)->(∀ e∈es,okP p e.dot=true)->(∀ e∈es,e.right=true)->entsB p es=true
 |[],_,_,_,_=>by unfold entsB;rfl
 |e :: es,p,h,h1,h2=>by
  obtain⟨h3,h4⟩:=List.pairwise_cons.1 h
  rw[ZE,h2 e (by simp),h1 e (by simp),qV5 es (some e.dot) h4 (fun a ha=>h3 a ha) fun a ha=>h2 a (by simp[ha])];rfl
theorem qV6 (d:Int):∀ (ks:List Kd) (p:Option ByteArray),(ks.Pairwise fun a b=>ltS a.1 b.1=true)->(∀ x∈ks,okK p x.1=true)->(∀ k t,(k,t)∈ks->keyB k=true/\t.empty=false/\t.right (d-1)=true)->Tr.rightL p ks d=true
 |[],p,_,_,_=>by cases p<;>rw[Tr.rightL]
 |(k,t) :: ks,p,h,h1,h2=>by
  obtain⟨h3,h4⟩:=List.pairwise_cons.1 h
  obtain⟨g1,g2,g3⟩:=h2 k t (by simp)
  rw[QX,g1,g2,g3,h1 (k,t) (by simp),qV6 d ks (some k) h4 (fun a ha=>h3 a ha) fun k' t' hm=>h2 k' t' (by simp[hm])];rfl
def LfR (n:Int)(x:Lf):Prop:=(x.1.length:Int)+1<=n/\(∀ k∈x.1,keyB k=true)/\x.2.right=true
theorem Ji:∀ (t:Tr) (n:Int),t.right n=true->∀ x∈t.lvs [],LfR n x:=by
 intro t
 induction t using Tr.ind with
 |h es ks ih=>
 intro n h x hx
 rw[Tr.right,Bool.and_eq_true,Bool.and_eq_true]at h
 have hn:=of_decide_eq_true h.1.1
 obtain⟨p,e⟩:=x
 match p with
 |[]=>
  have he:=Zv.1 hx
  refine⟨by simpa using hn,by simp,?_⟩
  have:∀ (es:List En) (p:Option Dt),entsB p es=true->∀ e∈es,e.right=true:=by
   intro es
   induction es with
   |nil=>intro _ _ _ h;cases h
   |cons y es ih=>
    intro p h e he
    rw[ZE,Bool.and_eq_true,Bool.and_eq_true]at h
    rcases List.mem_cons.1 he with rfl|he
    ·exact h.1.1
    ·exact ih _ h.2 e he
  exact this es none h.1.2 e he
 |k :: qs=>
  obtain⟨t,hm,hx⟩:=Qv.1 hx
  have hk:∀ (ks:List Kd) (p:Option ByteArray),Tr.rightL p ks n=true->∀ k t,(k,t)∈ks->keyB k=true/\t.right (n-1)=true:=by
   intro ks
   induction ks with
   |nil=>intro _ _ _ _ h;cases h
   |cons y ks ih=>
    obtain⟨y1,y2⟩:=y
    intro p h k t he
    rw[QX,Bool.and_eq_true,Bool.and_eq_true,Bool.and_eq_true,Bool.and_eq_true]at h
    obtain⟨⟨⟨⟨a1,a2⟩,a3⟩,a4⟩,a5⟩:=h
    rcases List.mem_cons.1 he with he|he
    ·cases he;exact⟨a1,a4⟩
    ·exact ih _ a5 k t he
  obtain⟨h1,h2⟩:=hk ks none h.2 k t hm
  obtain⟨g1,g2,g3⟩:=ih k t hm _ h2 _ hx
  exact⟨by simp at g1 ⊢;omega,fun q hq=>by
   rcases List.mem_cons.1 hq with rfl|hq
   ·exact h1
   ·exact g2 q hq,g3⟩
theorem VB:∀ (t:Tr) (n:Int),1<=n->t.Ord->(∀ x∈t.lvs [],LfR n x)->t.right n=true:=by
 intro t
 induction t using Tr.ind with
 |h es ks ih=>
 intro n hn ho hl
 obtain⟨h1,h2,h3⟩:=QQ.1 ho
 rw[Tr.right,Bool.and_eq_true,Bool.and_eq_true]
 refine⟨⟨by simpa using hn,qV5 es none h1 (fun _ _=>rfl) fun e he=>(hl ([],e) (Zv.2 he)).2.2⟩,qV6 n ks none h2 (fun _ _=>rfl) fun k t hm=>?_⟩
 obtain⟨g1,g2,g3⟩:=h3 k t hm
 have hsub:∀ x∈t.lvs [],LfR (n-1) x/\keyB k=true:=by
  rintro⟨qs,e⟩ hx
  obtain⟨f1,f2,f3⟩:=hl (k :: qs,e) (Qv.2 ⟨t,hm,hx⟩)
  exact⟨⟨by simp at f1 ⊢;omega,fun q hq=>f2 q (by simp[hq]),f3⟩,f2 k (by simp)⟩
 obtain⟨x,hx⟩:=Xp t g3 g2
 have hd:=(hsub x hx).1.1
 exact⟨(hsub x hx).2,g2,ih k t hm (n-1) (by omega) g3 fun x hx=>(hsub x hx).1⟩
theorem YL {t:Tr}(h:t.Ord):t.right 5=true↔∀ x∈t.lvs [],LfR 5 x:=⟨Ji t 5,VB t 5 (by omega) h⟩
/-! the dots of a tree -/
theorem qV7 {ks:List Kd}{d:Dt}:d∈Tr.dotsL ks↔∃ k t,(k,t)∈ks/\d∈t.dots:=by
 induction ks with
 |nil=>simp[Tr.dotsL]
 |cons y ks ih=>
  obtain⟨k,t⟩:=y
  rw[Tr.dotsL,List.mem_append,ih]
  constructor
  ·rintro (h|⟨k',t',hm,h⟩)
   ·exact⟨k,t,by simp,h⟩
   ·exact⟨k',t',by simp[hm],h⟩
  ·rintro⟨k',t',hm,h⟩
   rcases List.mem_cons.1 hm with e|hm
   ·cases e;exact .inl h
   ·exact .inr ⟨k',t',hm,h⟩
theorem Z6 (t:Tr):∀ d,d∈t.dots↔∃ p e,((p,e):Lf)∈t.lvs []/\e.dot=d:=by
 induction t using Tr.ind with
 |h es ks ih=>
 intro d
 rw[Tr.dots,List.mem_append,List.mem_map,qV7]
 constructor
 ·rintro (⟨e,he,rfl⟩|⟨k,t,hm,hd⟩)
  ·exact⟨[],e,Zv.2 he,rfl⟩
  ·obtain⟨p,e,hp,rfl⟩:=(ih k t hm d).1 hd
   exact⟨k :: p,e,Qv.2 ⟨t,hm,hp⟩,rfl⟩
 ·rintro⟨p,e,hx,rfl⟩
  match p with
  |[]=>exact .inl ⟨e,Zv.1 hx,rfl⟩
  |k :: qs=>
   obtain⟨t,hm,hx⟩:=Qv.1 hx
   exact .inr ⟨k,t,hm,(ih k t hm _).2 ⟨qs,e,hx,rfl⟩⟩
theorem qQp {e:En}(h:e.right=true):e.dot.right=true:=by
 unfold En.right at h;simp at h;exact h.1
theorem QI {t:Tr}(h:t.right 5=true):∀ d∈t.dots,d.right=true:=fun d hd=>by
 obtain⟨p,e,hx,rfl⟩:=(Z6 t d).1 hd
 exact qQp (Ji t 5 h _ hx).2.2
theorem YM {t:Tr}(h:t.right 5=true){d:Dt}:hasC (ctxOf t.dots) d=true↔d∈t.dots:=by
 constructor
 ·intro hc;rw[ZH (QI h) (Y1 hc)]at hc;simpa using hc
 ·intro hm;rw[ZH (QI h) (QI h d hm)];simpa using hm
/-! what is known, right -/
structure CaOk (t:Tr)(c:List Sp):Prop where
 ord:t.Ord
 leaf:∀ x∈t.lvs [],LfR 5 x
 ap:Qm c=true
 has:∀ x∈t.lvs [],hasC c x.2.dot=true
theorem Xe {t:Tr}{c:List Sp}:caR t c=true↔CaOk t c:=by
 unfold caR
 rw[Bool.and_eq_true]
 constructor
 ·rintro⟨h1,h2⟩
  have hc:Qm c=true:=by unfold cLeq at h2;simp only[Bool.and_eq_true]at h2;exact h2.2.1
  refine⟨ZL t 5 h1,Ji t 5 h1,hc,fun x hx=>?_⟩
  have ha:=Qq (QI h1)
  exact (qYl ha hc).1 h2 _ ((YM h1).2 ((Z6 t _).2 ⟨x.1,x.2,hx,rfl⟩))
 ·rintro⟨h1,h2,h3,h4⟩
  have hr:=(YL h1).2 h2
  refine⟨hr,(qYl (Qq (QI hr)) h3).2 fun d hd=>?_⟩
  obtain⟨p,e,hx,rfl⟩:=(Z6 t d).1 ((YM hr).1 hd)
  exact h4 _ hx
theorem CaOk.dep {t:Tr}{c:List Sp}(h:CaOk t c):t.dep<=6:=qZx (Xe.2 h)
theorem CaOk.ext {s t:Tr}{c d:List Sp}(h:CaOk s c)(k:CaOk t d)(hl:∀ p e,((p,e):Lf)∈s.lvs []↔((p,e):Lf)∈t.lvs [])(hd:∀ x,hasC c x=hasC d x):s=t/\c=d:=
 ⟨qVb s t h.ord k.ord fun ⟨p,e⟩=>hl p e,qZz h.ap k.ap hd⟩
abbrev jT (a b:Tr)(ca cb:List Sp):Tr:=joinT 6 ca cb a b
abbrev jC (ca cb:List Sp):List Sp:=ctxBy ca cb 0
theorem qV8 {a b:Tr}{ca cb:List Sp}(ha:CaOk a ca)(hb:CaOk b cb)(p:List ByteArray)(e:En):((p,e):Lf)∈(jT a b ca cb).lvs []↔EntJ ca cb (fun x=>((p,x):Lf)∈a.lvs []) (fun y=>((p,y):Lf)∈b.lvs []) e:=
 (Jg ca cb 6 a b ha.ord hb.ord ha.dep hb.dep).2 p e
theorem zXo (x y:En):grtE x y=x∨grtE x y=y:=by unfold grtE;split<;>simp
theorem EntJ.leaf {ca cb:List Sp}{a b:En->Prop}{e:En}(h:EntJ ca cb a b e):a e∨b e:=by
 rcases h with⟨x,y,hx,hy,_,rfl⟩|⟨hx,_,_⟩|⟨hx,_,_⟩
 ·rcases zXo x y with h|h<;>rw[h]
  ·exact .inl hx
  ·exact .inr hy
 ·exact .inl hx
 ·exact .inr hx
theorem jT_ok {a b:Tr}{ca cb:List Sp}(ha:CaOk a ca)(hb:CaOk b cb):CaOk (jT a b ca cb) (jC ca cb):=by
 refine⟨(Jg ca cb 6 a b ha.ord hb.ord ha.dep hb.dep).1,fun x hx=>?_,Y0 ha.ap hb.ap 0,fun x hx=>?_⟩
 ·obtain⟨p,e⟩:=x
  rcases ((qV8 ha hb p e).1 hx).leaf with h|h
  ·exact ha.leaf _ h
  ·exact hb.leaf _ h
 ·obtain⟨p,e⟩:=x
  rw[QH ha.ap hb.ap]
  rcases ((qV8 ha hb p e).1 hx).leaf with h|h
  ·rw[ha.has _ h];rfl
  ·rw[hb.has _ h];simp
theorem jn_ok {a b:Tr}{ca cb:List Sp}(ha:CaOk a ca)(hb:CaOk b cb):jnE a b ca cb=0/\jnT a b ca cb=jT a b ca cb/\jnC a b ca cb=jC ca cb:=by
 unfold jnE jnT jnC
 rw[Xe.2 ha,Xe.2 hb]
 exact⟨rfl,rfl,rfl⟩
theorem qV9 {y x:En}:gtE y x=true↔x.v<y.v∨(y.v=x.v/\ltS x.s y.s=true):=by unfold gtE;simp
theorem zZx {y x:En}:gtE y x=false↔y.v<x.v∨(y.v=x.v/\ltS x.s y.s=false):=by
 rw[←Bool.not_eq_true,qV9]
 cases ltS x.s y.s<;>simp<;>omega
theorem qWa {x y z:En}(h:gtE x y=true)(k:gtE y z=true):gtE x z=true:=by
 rw[qV9]at *
 rcases h with h|⟨h,h'⟩<;>rcases k with k|⟨k,k'⟩
 ·exact .inl (by omega)
 ·exact .inl (by omega)
 ·exact .inl (by omega)
 ·exact .inr ⟨by omega,QF k' h'⟩
theorem qYm (x:En):gtE x x=false:=by rw[zZx];exact .inr ⟨rfl,Qx _⟩
theorem qWb {x y:En}(hd:x.dot=y.dot)(h:gtE x y=false)(k:gtE y x=false):x=y:=by
 rw[zZx]at *
 rcases h with h|⟨h,h'⟩<;>rcases k with k|⟨k,k'⟩
 ·omega
 ·omega
 ·omega
 ·have:=ZI h' k'
  obtain⟨a,b,c,d⟩:=x
  obtain⟨a',b',c',d'⟩:=y
  simp only[En.dot,Dt.mk.injEq]at hd
  simp only at this h
  obtain⟨rfl,rfl⟩:=hd
  subst this;subst h;rfl
theorem zQr (x:En):grtE x x=x:=by rw[Zo,qYm];rfl
theorem zQs {x y:En}(hd:x.dot=y.dot):grtE x y=grtE y x:=by
 rw[Zo,Zo]
 cases h1:gtE y x<;>cases h2:gtE x y<;>simp
 ·exact qWb hd h2 h1
 ·have:=qWa h1 h2;rw[qYm]at this;cases this
theorem qWc {x y z:En}(_:x.dot=y.dot)(h2:y.dot=z.dot):grtE (grtE x y) z=grtE x (grtE y z):=by
 rw[Zo x y,Zo y z]
 cases a:gtE y x<;>cases b:gtE z y<;>simp only[if_true,if_false,Bool.false_eq_true]
 ·rw[Zo x z,Zo x y,a]
  cases c:gtE z x
  ·simp
  ·simp
   -- z > x, not z > y, not y > x : then y ≥ z > x, so y > x
   exfalso
   cases d:gtE y z
   ·have:=qWb h2 d b;subst this;rw[a]at c;cases c
   ·have:=qWa d c;rw[a]at this;cases this
 ·rw[Zo y z,b,Zo x y,a];rfl
 ·rw[Zo y z,b,Zo x z,qWa b a];rfl
def stE (t:Tr)(p:List ByteArray)(d:Dt):Option En:=((t.lvs []).find? fun x=>decide (x.1=p)&&decide (x.2.dot=d)).map (·.2)
theorem Qy {t:Tr}(h:t.Ord){p:List ByteArray}{d:Dt}{e:En}:stE t p d=some e↔((p,e):Lf)∈t.lvs []/\e.dot=d:=by
 unfold stE
 constructor
 ·intro hs
  obtain⟨⟨q,f⟩,h1,h2⟩:=Option.map_eq_some_iff.1 hs
  have h3:=List.find?_some h1
  have h4:=List.mem_of_find?_eq_some h1
  simp at h2 h3
  obtain⟨rfl,h3⟩:=h3
  subst h2
  exact⟨h4,h3⟩
 ·rintro⟨hm,hd⟩
  cases hf:(t.lvs []).find? fun x=>decide (x.1=p)&&decide (x.2.dot=d) with
  |none=>
   have:=List.find?_eq_none.1 hf _ hm
   simp[hd]at this
  |some y=>
   have h3:=List.find?_some hf
   have h4:=List.mem_of_find?_eq_some hf
   simp at h3
   have:=(Xr t h).one y h4 (p,e) hm h3.1 (h3.2.trans hd.symm)
   subst this;rfl
theorem Jz {t:Tr}(h:t.Ord){p:List ByteArray}{d:Dt}:stE t p d=none↔∀ e,((p,e):Lf)∈t.lvs []->e.dot≠d:=by
 constructor
 ·intro hs e hm hd
  rw[(Qy h).2 ⟨hm,hd⟩]at hs;cases hs
 ·intro hn
  cases hs:stE t p d with
  |none=>rfl
  |some e=>exact absurd ((Qy h).1 hs).2 (hn e ((Qy h).1 hs).1)
def jnO (x:Option En)(k:Bool)(y:Option En)(l:Bool):Option En:=
 match x,y with
 |some x,some y=>some (grtE x y)
 |some x,none=>if l then none else some x
 |none,some y=>if k then none else some y
 |none,none=>none
theorem zXp {t s:Tr}{ca cb:List Sp}(ht:t.Ord)(hs:s.Ord)(hca:Qm ca=true)(hcb:Qm cb=true)(p:List ByteArray)(d:Dt)(e:En) :
  (EntJ ca cb (fun x=>((p,x):Lf)∈t.lvs []) (fun y=>((p,y):Lf)∈s.lvs []) e/\e.dot=d)↔jnO (stE t p d) (hasC ca d) (stE s p d) (hasC cb d)=some e:=by
 unfold EntJ
 simp only[XG hca,XG hcb]
 cases h1:stE t p d with
 |none=>
  have n1:=(Jz ht).1 h1
  cases h2:stE s p d with
  |none=>
   have n2:=(Jz hs).1 h2
   constructor
   ·rintro⟨⟨x,y,hx,hy,hd,rfl⟩|⟨hx,_⟩|⟨hx,_⟩,hd'⟩
    ·rw[Z3 hd]at hd';exact absurd hd' (n1 x hx)
    ·exact absurd hd' (n1 e hx)
    ·exact absurd hd' (n2 e hx)
   ·intro h;cases h
  |some y=>
   obtain⟨hy,hyd⟩:=(Qy hs).1 h2
   constructor
   ·rintro⟨⟨x,y,hx,hy,hd,rfl⟩|⟨hx,_⟩|⟨hx,hn,hh⟩,hd'⟩
    ·rw[Z3 hd]at hd';exact absurd hd' (n1 x hx)
    ·exact absurd hd' (n1 e hx)
    ·have:=(Qy hs).2 ⟨hx,hd'⟩
     rw[h2]at this
     cases this
     rw[hd']at hh
     simp[jnO,hh]
   ·intro h
    unfold jnO at h
    simp only at h
    split at h
    ·cases h
    ·rename_i hh
     cases h
     exact⟨.inr (.inr ⟨hy,fun x hx hxd=>n1 x hx (hxd.trans hyd),by rw[hyd];simpa using hh⟩),hyd⟩
 |some x=>
  obtain⟨hx,hxd⟩:=(Qy ht).1 h1
  cases h2:stE s p d with
  |none=>
   have n2:=(Jz hs).1 h2
   constructor
   ·rintro⟨⟨x',y,hx',hy,hd,rfl⟩|⟨hx',hn,hh⟩|⟨hx',hn,hh⟩,hd'⟩
    ·rw[Z3 hd]at hd';exact absurd (hd.symm.trans hd') (n2 y hy)
    ·have:=(Qy ht).2 ⟨hx',hd'⟩
     rw[h1]at this
     cases this
     rw[hd']at hh
     simp[jnO,hh]
    ·exact absurd hd' (n2 e hx')
   ·intro h
    unfold jnO at h
    simp only at h
    split at h
    ·cases h
    ·rename_i hh
     cases h
     exact⟨.inr (.inl ⟨hx,fun y hy hyd=>n2 y hy (hyd.trans hxd),by rw[hxd];simpa using hh⟩),hxd⟩
  |some y=>
   obtain⟨hy,hyd⟩:=(Qy hs).1 h2
   constructor
   ·rintro⟨⟨x',y',hx',hy',hd,rfl⟩|⟨hx',hn,hh⟩|⟨hx',hn,hh⟩,hd'⟩
    ·rw[Z3 hd]at hd'
     have e1:=(Qy ht).2 ⟨hx',hd'⟩
     have e2:=(Qy hs).2 ⟨hy',hd.symm.trans hd'⟩
     rw[h1]at e1;rw[h2]at e2
     cases e1;cases e2
     rfl
    ·exact absurd (hyd.trans hd'.symm) (hn y hy)
    ·exact absurd (hxd.trans hd'.symm) (hn x hx)
   ·intro h
    unfold jnO at h
    cases h
    exact⟨.inl ⟨x,y,hx,hy,hxd.trans hyd.symm,rfl⟩,(Z3 (hxd.trans hyd.symm)).trans hxd⟩
theorem Z7 {a b:Tr}{ca cb:List Sp}(ha:CaOk a ca)(hb:CaOk b cb)(p:List ByteArray)(d:Dt):stE (jT a b ca cb) p d=jnO (stE a p d) (hasC ca d) (stE b p d) (hasC cb d):=by
 refine Option.ext fun e=>?_
 rw[Qy (jT_ok ha hb).ord,←zXp ha.ord hb.ord ha.ap hb.ap,qV8 ha hb]
theorem Q5 {a:Tr}{ca:List Sp}(ha:CaOk a ca){p:List ByteArray}{d:Dt}{e:En}(h:stE a p d=some e):hasC ca d=true/\e.dot=d:=by
 obtain⟨h1,h2⟩:=(Qy ha.ord).1 h
 exact⟨by rw[←h2];exact ha.has _ h1,h2⟩
theorem CaOk.ext2 {s t:Tr}{c d:List Sp}(h:CaOk s c)(k:CaOk t d)(hl:∀ p x,stE s p x=stE t p x)(hd:∀ x,hasC c x=hasC d x):s=t/\c=d:=by
 refine h.ext k (fun p e=>?_) hd
 have h1:=@Qy s h.ord p e.dot e
 have h2:=@Qy t k.ord p e.dot e
 rw[hl]at h1
 simp only[and_true]at h1 h2
 exact h1.symm.trans h2
theorem qQq {a b:Tr}{ca cb:List Sp}(ha:CaOk a ca)(hb:CaOk b cb):jT a b ca cb=jT b a cb ca/\jC ca cb=jC cb ca:=by
 refine (jT_ok ha hb).ext2 (jT_ok hb ha) (fun p d=>?_) fun d=>?_
 ·rw[Z7 ha hb,Z7 hb ha]
  cases h:stE a p d<;>cases k:stE b p d<;>simp[jnO]
  exact zQs ((Q5 ha h).2.trans (Q5 hb k).2.symm)
 ·rw[QH ha.ap hb.ap,QH hb.ap ha.ap,Bool.or_comm]
theorem Vc {a b c:Tr}{ca cb cc:List Sp}(ha:CaOk a ca)(hb:CaOk b cb)(hc:CaOk c cc):jT (jT a b ca cb) c (jC ca cb) cc=jT a (jT b c cb cc) ca (jC cb cc)/\jC (jC ca cb) cc=jC ca (jC cb cc):=by
 have hab:=jT_ok ha hb
 have hbc:=jT_ok hb hc
 refine (jT_ok hab hc).ext2 (jT_ok ha hbc) (fun p d=>?_) fun d=>?_
 ·rw[Z7 hab hc,Z7 ha hbc,Z7 ha hb,Z7 hb hc,QH ha.ap hb.ap,QH hb.ap hc.ap]
  cases h1:stE a p d with
  |none=>
   cases h2:stE b p d with
   |none=>cases h3:stE c p d<;>cases hasC ca d<;>cases hasC cb d<;>cases hasC cc d<;>rfl
   |some y=>
    have g2:=(Q5 hb h2).1
    cases h3:stE c p d with
    |none=>rw[g2];cases hasC ca d<;>cases hasC cc d<;>rfl
    |some z=>rw[g2,(Q5 hc h3).1];cases hasC ca d<;>rfl
  |some x=>
   have g1:=(Q5 ha h1).1
   cases h2:stE b p d with
   |none=>
    cases h3:stE c p d with
    |none=>rw[g1];cases hasC cb d<;>cases hasC cc d<;>rfl
    |some z=>rw[g1,(Q5 hc h3).1];cases hasC cb d<;>rfl
   |some y=>
    have g2:=(Q5 hb h2).1
    cases h3:stE c p d with
    |none=>rw[g1,g2];cases hasC cc d<;>rfl
    |some z=>
     rw[g1,g2,(Q5 hc h3).1]
     simp only[jnO]
     rw[qWc ((Q5 ha h1).2.trans (Q5 hb h2).2.symm) ((Q5 hb h2).2.trans (Q5 hc h3).2.symm)]
 ·rw[QH hab.ap hc.ap,QH ha.ap hb.ap,QH ha.ap hbc.ap,QH hb.ap hc.ap,Bool.or_assoc]
theorem CaOk.nil:CaOk (.mk [] []) []:=⟨qZi,fun x h=>by simp[Tr.lvs,Tr.lvsL]at h,Kh,fun x h=>by simp[Tr.lvs,Tr.lvsL]at h⟩
theorem qYn {a:Tr}{ca:List Sp}(ha:CaOk a ca):jT (.mk [] []) a [] ca=a/\jC [] ca=ca:=by
 refine (jT_ok CaOk.nil ha).ext2 ha (fun p d=>?_) fun d=>?_
 ·rw[Z7 CaOk.nil ha,XH]
  cases h:stE a p d<;>simp[jnO,stE,Tr.lvs,Tr.lvsL]
 ·rw[QH Kh ha.ap,XH,Bool.false_or]
theorem Zu {t:Tr}{d:Dt}(h:chkT t d=true):t.right 5=true/\d.right=true/\d∉t.dots:=by
 unfold chkT at h
 rw[Bool.and_eq_true,Bool.and_eq_true]at h
 refine⟨h.1.1,h.1.2,fun hm=>?_⟩
 rw[(YM h.1.1).2 hm]at h
 simp at h
theorem zQt {t:Tr}{d x:Dt}(h:t.right 5=true)(hd:d.right=true):hasC (seenC t d) x=true↔x∈t.dots∨x=d:=by
 have hr:∀ y∈[d],y.right=true:=fun y hy=>by simp at hy;subst hy;exact hd
 unfold seenC
 rw[QH (Qq (QI h)) (Qq hr),Bool.or_eq_true,YM h]
 refine or_congr Iff.rfl ?_
 constructor
 ·intro hc;rw[ZH hr (Y1 hc)]at hc;simpa using hc
 ·rintro rfl;rw[ZH hr hd];simp
theorem qJ7 {t:Tr}{d:Dt}(h:t.right 5=true)(hd:d.right=true):Qm (seenC t d)=true:=
 Y0 (Qq (QI h)) (Qq fun y hy=>by simp at hy;subst hy;exact hd) 0
theorem zZy {c:List Sp}(hc:Qm c=true):CaOk (.mk [] []) c:=⟨qZi,fun x h=>by simp[Tr.lvs,Tr.lvsL]at h,hc,fun x h=>by simp[Tr.lvs,Tr.lvsL]at h⟩
theorem zXq (p:List ByteArray)(d:Dt):stE (.mk [] []) p d=none:=by simp[stE,Tr.lvs,Tr.lvsL]
theorem qWd {t:Tr}{d x:Dt}(h:t.right 5=true)(hd:d.right=true):hasC (seenC t d) x=(decide (x∈t.dots)||decide (x=d)):=by
 rw[Bool.eq_iff_iff,zQt h hd];simp
def kz:List Kd->ByteArray->Nat
 |[],_=>0
 |(k,t) :: ks,q=>if k=q then 1+t.sz else kz ks q
theorem zZz (ks:List Kd)(q:ByteArray)(es:List En):(kidT (.mk es ks) q).sz<=kz ks q/\((∃ t,(q,t)∈ks)->(kidT (.mk es ks) q).sz+1<=kz ks q):=by
 unfold kidT
 simp only[Tr.ks]
 induction ks with
 |nil=>simp[kz,Tr.sz,Tr.szL]
 |cons y ks ih=>
  obtain⟨k,t⟩:=y
  rw[kz,List.find?_cons]
  by_cases h:k=q
  ·subst h;simp;omega
  ·simp only[h,decide_false,if_false]
   refine⟨ih.1,fun ⟨t',hm⟩=>ih.2 ⟨t',?_⟩⟩
   rcases List.mem_cons.1 hm with e|hm
   ·cases e;exact absurd rfl h
   ·exact hm
theorem qWe (c:Nat)(q:ByteArray):∀ (K:List ByteArray),K.Nodup->(K.map fun k=>if q=k then c else 0).sum<=c
 |[],_=>by simp
 |k :: K,h=>by
  obtain⟨h1,h2⟩:=List.nodup_cons.1 h
  rw[List.map_cons,List.sum_cons]
  by_cases e:q=k
  ·have:(K.map fun k=>if q=k then c else 0).sum=0:=by
    have hz:(K.map fun k=>if q=k then c else 0)=K.map fun _=>0:=List.map_congr_left fun x hx=>by
     rw[if_neg];rintro rfl;exact h1 (e▸hx)
    rw[hz];clear hz h1 h2 h
    induction K with
    |nil=>rfl
    |cons _ _ ih=>simp[ih]
   rw[if_pos e,this];omega
  ·rw[if_neg e];have:=qWe c q K h2;omega
theorem zZ0 {α:Type}(f g:α->Nat):∀ (K:List α),(∀ k∈K,f k<=g k)->(K.map f).sum<=(K.map g).sum
 |[],_=>by simp
 |k :: K,h=>by
  have h1:=h k (by simp)
  have h2:=zZ0 f g K fun k hk=>h k (by simp[hk])
  simp only[List.map_cons,List.sum_cons];omega
theorem qZ0 {α:Type}(f g:α->Nat):∀ (K:List α),(K.map fun k=>f k+g k).sum=(K.map f).sum+(K.map g).sum
 |[]=>by simp
 |k :: K=>by
  have h2:=qZ0 f g K
  simp only[List.map_cons,List.sum_cons]at h2 ⊢;omega
theorem qWf:∀ (ks:List Kd) (K:List ByteArray),K.Nodup->(K.map (kz ks)).sum<=Tr.szL ks
 |[],K,_=>by
  have:K.map (kz [])=K.map fun _=>0:=List.map_congr_left fun _ _=>rfl
  rw[this]
  have:∀ K:List ByteArray,(K.map fun _=>0).sum=0:=fun K=>by induction K with|nil=>rfl|cons _ _ ih=>simp[ih]
  rw[this];exact Nat.zero_le _
 |(k,t) :: ks,K,h=>by
  have h1:=qWf ks K h
  have h2:=qWe (1+t.sz) k K h
  have h3:=zZ0 (kz ((k,t) :: ks)) (fun q=>(if k=q then 1+t.sz else 0)+kz ks q) K fun q _=>by rw[kz];split<;>omega
  rw[qZ0]at h3
  rw[Tr.szL];omega
theorem qYo (f:ByteArray->Tr)(g:ByteArray->Nat):∀ (K:List ByteArray),(∀ k∈K,(f k).sz+1<=g k)->Tr.szL (K.flatMap (joinF f))<=(K.map g).sum
 |[],_=>by simp[Tr.szL]
 |k :: K,h=>by
  have h1:=h k (by simp)
  have h2:=qYo f g K fun k hk=>h k (by simp[hk])
  rw[List.flatMap_cons,List.map_cons,List.sum_cons]
  unfold joinF at h2 ⊢
  split
  ·simp;omega
  ·simp[Tr.szL];omega
theorem qYp {K:List ByteArray}(h:K.Pairwise fun a b=>ltS a b=true):K.Nodup:=
 h.imp fun {a b} hab e=>by subst e;rw[Qx]at hab;cases hab
theorem zXr (ca cb:List Sp):∀ (n:Nat) (a b:Tr),a.Ord->b.Ord->a.dep<=n->b.dep<=n->(joinT n ca cb a b).sz<=a.sz+b.sz:=by
 intro n
 induction n with
 |zero=>intro a b _ _ h _;have:=Kc a;omega
 |succ n ih=>
 intro a b ha hb hda hdb
 obtain⟨hk1,hk2⟩:=K8 a b
 have hN:=qYp hk1
 rw[joinT,Tr.sz]
 have h1:=Yt ca cb _ a.es b.es (Nat.le_refl _)
 have h2:=qYo (fun k=>joinT n ca cb (kidT a k) (kidT b k)) (fun k=>kz a.ks k+kz b.ks k) (joinK a b) fun k hk=>by
  have h3:=ih (kidT a k) (kidT b k) (ZB ha k) (ZB hb k) (YX ha hda (YK hda hdb hk) k) (YX hb hdb (YK hda hdb hk) k)
  have h4:=zZz a.ks k a.es
  have h5:=zZz b.ks k b.es
  have e1:Tr.mk a.es a.ks=a:=by cases a;rfl
  have e2:Tr.mk b.es b.ks=b:=by cases b;rfl
  rw[e1]at h4
  rw[e2]at h5
  obtain⟨t,h|h⟩:=(hk2 k).1 hk
  ·have:=h4.2 ⟨t,h⟩;omega
  ·have:=h5.2 ⟨t,h⟩;omega
 rw[qZ0]at h2
 have h3:=qWf a.ks _ hN
 have h4:=qWf b.ks _ hN
 have e1:a.sz=a.es.length+Tr.szL a.ks:=by cases a;rw[Tr.sz];rfl
 have e2:b.sz=b.es.length+Tr.szL b.ks:=by cases b;rw[Tr.sz];rfl
 omega
theorem jT_sz {a b:Tr}{ca cb:List Sp}(ha:CaOk a ca)(hb:CaOk b cb):(jT a b ca cb).sz<=a.sz+b.sz:=zXr ca cb 6 a b ha.ord hb.ord ha.dep hb.dep
theorem XI {a b:List (Int×Int)}(ha:runsR none a=true)(hb:runsR none b=true):(byL a b 0).length<=a.length+b.length:=by
 have hp:=List.mergeSort_perm (a++b) fun x y=>decide (x.1<=y.1)
 have hs:((a++b).mergeSort fun x y=>decide (x.1<=y.1)).Pairwise fun x y=>x.1<=y.1:=
  (List.pairwise_mergeSort (fun a b c h k=>by simp at h k ⊢;omega) (fun a b=>by simp;omega) (a++b)).imp fun h=>by simpa using h
 rw[←KZ ha hb hp hs]
 have h:=Xu ((a++b).mergeSort fun x y=>decide (x.1<=y.1)) (((a++b).mergeSort fun x y=>decide (x.1<=y.1)).length)
 rw[List.take_of_length_le (Nat.le_refl _),hp.length_eq,List.length_append]at h
 exact h
theorem qWg (c:List Sp)(h:∀ s∈c,0<=s.dc/\s.dc<4):(partL c 0).length+(partL c 1).length+(partL c 2).length+(partL c 3).length=c.length:=by
 induction c with
 |nil=>rfl
 |cons s c ih=>
  have h1:=ih fun s hs=>h s (by simp[hs])
  have h2:=h s (by simp)
  obtain⟨dc,fr,hi⟩:=s
  simp only at h2
  have h3:dc=0∨dc=1∨dc=2∨dc=3:=by omega
  unfold partL at h1 ⊢
  simp only[List.length_map]at h1 ⊢
  rcases h3 with rfl|rfl|rfl|rfl<;>simp<;>omega
theorem zYu {a b:List Sp}(ha:Qm a=true)(hb:Qm b=true):(jC a b).length<=a.length+b.length:=by
 have h:=Y0 ha hb 0
 have hdc:∀ {c:List Sp},Qm c=true->∀ s∈c,0<=s.dc/\s.dc<4:=fun {c} hc=>ZQ c 0 (by unfold Qm at hc;rw[Bool.and_eq_true]at hc;exact hc.1)
 have e1:=qWg a (hdc ha)
 have e2:=qWg b (hdc hb)
 have e3:=qWg (jC a b) (hdc h)
 have p0:partL (jC a b) 0=byL (partL a 0) (partL b 0) 0:=Ym a b 0 (i:=0) (by omega)
 have p1:partL (jC a b) 1=byL (partL a 1) (partL b 1) 0:=Ym a b 0 (i:=1) (by omega)
 have p2:partL (jC a b) 2=byL (partL a 2) (partL b 2) 0:=Ym a b 0 (i:=2) (by omega)
 have p3:partL (jC a b) 3=byL (partL a 3) (partL b 3) 0:=Ym a b 0 (i:=3) (by omega)
 have u0:(byL (partL a 0) (partL b 0) 0).length<=(partL a 0).length+(partL b 0).length:=XI (Qw ha (i:=0) (by omega)) (Qw hb (i:=0) (by omega))
 have u1:(byL (partL a 1) (partL b 1) 0).length<=(partL a 1).length+(partL b 1).length:=XI (Qw ha (i:=1) (by omega)) (Qw hb (i:=1) (by omega))
 have u2:(byL (partL a 2) (partL b 2) 0).length<=(partL a 2).length+(partL b 2).length:=XI (Qw ha (i:=2) (by omega)) (Qw hb (i:=2) (by omega))
 have u3:(byL (partL a 3) (partL b 3) 0).length<=(partL a 3).length+(partL b 3).length:=XI (Qw ha (i:=3) (by omega)) (Qw hb (i:=3) (by omega))
 rw[←p0]at u0
 rw[←p1]at u1
 rw[←p2]at u2
 rw[←p3]at u3
 omega
abbrev Kn:=Tr×List Sp
abbrev KOk (x:Kn):Prop:=CaOk x.1 x.2
def jn (x y:Kn):Kn:=(jT x.1 y.1 x.2 y.2,jC x.2 y.2)
def kn0:Kn:=(.mk [] [],[])
theorem qQr:KOk kn0:=CaOk.nil
theorem qQs {x y:Kn}(hx:KOk x)(hy:KOk y):KOk (jn x y):=jT_ok hx hy
theorem qWh {x y:Kn}(hx:KOk x)(hy:KOk y):jn x y=jn y x:=Prod.ext (qQq hx hy).1 (qQq hx hy).2
theorem VC {x y z:Kn}(hx:KOk x)(hy:KOk y)(hz:KOk z):jn (jn x y) z=jn x (jn y z):=Prod.ext (Vc hx hy hz).1 (Vc hx hy hz).2
theorem qWi {x:Kn}(hx:KOk x):jn kn0 x=x:=Prod.ext (qYn hx).1 (qYn hx).2
theorem zQu {x y z:Kn}(hx:KOk x)(hy:KOk y)(hz:KOk z):jn (jn x y) z=jn (jn x z) y:=by
 rw[VC hx hy hz,qWh hy hz,VC hx hz hy]
theorem jn_sz {x y:Kn}(hx:KOk x)(hy:KOk y):(jn x y).1.sz<=x.1.sz+y.1.sz/\(jn x y).2.length<=x.2.length+y.2.length:=⟨jT_sz hx hy,zYu hx.ap hy.ap⟩
def jnL (l:List Kn):Kn:=l.foldl jn kn0
theorem qJ8 {l m:List Kn}(hp:l.Perm m):∀ z,KOk z->(∀ x∈l,KOk x)->l.foldl jn z=m.foldl jn z:=by
 induction hp with
 |nil=>intro z _ _;rfl
 |cons x _ ih=>intro z hz h;exact ih (jn z x) (qQs hz (h x (by simp))) fun y hy=>h y (by simp[hy])
 |swap x y l=>intro z hz h;simp only[List.foldl_cons];rw[zQu hz (h y (by simp)) (h x (by simp))]
 |trans h1 _ ih1 ih2=>intro z hz h;rw[ih1 z hz h,ih2 z hz fun x hx=>h x (h1.symm.subset hx)]
theorem zQv {l m:List Kn}(hp:l.Perm m)(h:∀ x∈l,KOk x):jnL l=jnL m:=qJ8 hp kn0 qQr h
theorem qWj {x y z:Kn}(hx:KOk x):jnL [x,y,z]=jn (jn x y) z:=by show jn (jn (jn kn0 x) y) z=_;rw[qWi hx]
theorem jn_st {x y:Kn}(hx:KOk x)(hy:KOk y)(p:List ByteArray)(d:Dt):stE (jn x y).1 p d=jnO (stE x.1 p d) (hasC x.2 d) (stE y.1 p d) (hasC y.2 d):=Z7 hx hy p d
theorem Ki {x y:Kn}(hx:KOk x)(hy:KOk y)(d:Dt):hasC (jn x y).2 d=(hasC x.2 d||hasC y.2 d):=QH hx.ap hy.ap d
theorem zQx {t:Tr}(ho:t.Ord){s:ByteArray}{x:Dt}(h:x∈(kidT t s).dots):x∈t.dots:=by
 obtain⟨p,e,hx,rfl⟩:=(Z6 _ _).1 h
 exact (Z6 t _).2 ⟨s :: p,e,(Xs ho).1 hx,rfl⟩
theorem Vd {t:Tr}(h:t.right 5=true)(s:ByteArray):(kidT t s).right 5=true:=qX0 _ 4 5 (KM (n:=4) h (by omega) s) (by omega)
theorem zZ1 {α β:Type}{f:α->β}:∀ {l:List α},(l.map f).Nodup->∀ x∈l,∀ y∈l,f x=f y->x=y
 |a :: l,h,x,hx,y,hy,e=>by
  rw[List.map_cons,List.nodup_cons]at h
  rcases List.mem_cons.1 hx with h1|h1
  ·rcases List.mem_cons.1 hy with h2|h2
   ·rw[h1,h2]
   ·subst h1;exact absurd (List.mem_map.2 ⟨y,h2,e.symm⟩) h.1
  ·rcases List.mem_cons.1 hy with h2|h2
   ·subst h2;exact absurd (List.mem_map.2 ⟨x,h1,e⟩) h.1
   ·exact zZ1 h.2 x h1 y h2 e
end Go.Proofs.YtbcoelggdikipaaGreat
