/- What the laws need. No condition but those that each lemma states. -/
import Derived.Test.YtidebdbjekijkaaGreatUd5
import Derived.Test.YtidebdbjekijkaaGreatUd6
import Derived.Test.YtidebdbjekijkaaGreatUd2
import Derived.Test.YtidebdbjekijkaaGreatUd3
set_option maxRecDepth 100000
set_option maxHeartbeats 8000000
set_option linter.unusedSimpArgs false
namespace Go.Proofs.YtidebdbjekijkaaGreat
open Go.RowKit
theorem qVf:V4 187 2:=
 ⟨enters_of Tryz.func187 (by kernel_rfl) rfl,fun a b va vb W ha hb hra hrb hN hN'=>qJp hra hrb▸qVe a b va vb W ha hb hra hrb (by rw[qJp hra hrb];have:=JV a b 2;omega)⟩
theorem qVg (a b:List Sp)(va vb:Value)(w:World)(ha:SlP w w.heap.size 3 SpE va a)(hb:SlP w w.heap.size 3 SpE vb b)(hra:Qm a=true)(hrb:Qm b=true)(hN:a.length<=20000)(hN':b.length<=20000) :
  Calls Tryz.prog 145 #[va,vb] w (RetO w 45 3 (fun _=>SpE) (ctxBy a b 2)):=by
 go_enter Tryz.func145,Tryz.ntmps145
 go_wp2_with fail
 refine (qXw a b 2 _ qVf va vb w ha hb hra hrb hN hN').mono ?_
 rintro e w1 ⟨v,rfl,h⟩
 go_wp2_with fail
 go_ret
 exact⟨v,rfl,h⟩
theorem VB (c:List Sp)(vc:Value)(w:World)(h:SlP w w.heap.size 3 SpE vc c)(hN:c.length<=900000) :
  Calls Tryz.prog 121 #[vc] w fun e w'=>e=.returned (.bool (Qm c))/\Below w.heap.size w w':=by
 have HC:=hid h
 obtain⟨A,n,rfl,_⟩:=h
 go_enter Tryz.func121,Tryz.ntmps121
 go_wp2_with fail
 refine (XM c _ _ HC.out hN).mono ?_
 rintro e w1 ⟨vs,rfl,hsl,hb1⟩
 have hs1:=hb1.size
 obtain⟨A0,m0,g0,_⟩:=hsl 0 (by omega)
 obtain⟨A1,m1,g1,_⟩:=hsl 1 (by omega)
 obtain⟨A2,m2,g2,_⟩:=hsl 2 (by omega)
 obtain⟨A3,m3,g3,_⟩:=hsl 3 (by omega)
 simp only[g0,g1,g2,g3]
 clear hsl g0 g1 g2 g3
 go_wp2_with fail
 all_goals (go_ret;exact⟨rfl,hb1.alloc hs1 _⟩)
def cLeq (a b:List Sp):Bool:=Qm a&&(Qm b&&decide ((ctxBy a b 2).length=0))
theorem zZp (a b:List Sp)(va vb:Value)(w:World)(ha:SlP w w.heap.size 3 SpE va a)(hb:SlP w w.heap.size 3 SpE vb b)(hN:a.length<=20000)(hN':b.length<=20000) :
  Calls Tryz.prog 96 #[va,vb] w fun e w'=>e=.returned (.bool (cLeq a b))/\Below w.heap.size w w':=by
 have HA:=hid ha
 have HB:=hid hb
 obtain⟨A1,c1,rfl,_⟩:=ha
 obtain⟨A2,c2,rfl,_⟩:=hb
 go_enter Tryz.func96,Tryz.ntmps96
 go_wp2_with fail
 refine (VB a _ w HA.out (by omega)).mono ?_
 rintro e w1 ⟨rfl,hb1⟩
 have hs1:=hb1.size
 cases ra:Qm a
 ·have HR:Hid (cLeq a b=false):=by unfold Hid cLeq;rw[ra];rfl
  clear ra
  go_wp2_with fail
  go_ret
  exact⟨Qf HR.out.symm,hb1⟩
 have RA:=hid ra
 go_wp2_with fail
 refine (VB b _ w1 (HB.out.imp hb1 hs1 fun _ _ _ h=>h) (by omega)).mono ?_
 rintro e w2 ⟨rfl,hb2⟩
 have hs2:=hb2.size
 have hB2:Below w.heap.size w w2:=hb1.trans (hb2.mono hs1)
 cases rb:Qm b
 ·have HR:Hid (cLeq a b=false):=by unfold Hid cLeq;rw[ra,rb];rfl
  clear ra rb
  go_wp2_with fail
  go_ret
  exact⟨Qf HR.out.symm,hB2⟩
 have RB:=hid rb
 have HR:Hid (cLeq a b=decide ((ctxBy a b 2).length=0)):=by unfold Hid cLeq;rw[ra,rb];rfl
 clear ra rb
 go_wp2_with fail
 refine (qVg a b _ _ w2 (HA.out.imp hB2 (by omega) fun _ _ _ h=>h) (HB.out.imp hB2 (by omega) fun _ _ _ h=>h) RA.out RB.out hN hN').mono ?_
 rintro e w3 ⟨v3,rfl,ho3,hb3⟩
 obtain⟨A5,c5,rfl⟩:=ho3.shape
 have hl:=Ys a b 2
 clear ho3
 generalize ctxBy a b 2=C at *
 rcases hz:decide (C.length=0)
 ·have hz2:C.length≠0:=by simpa using hz
  have HZ:=hid hz
  clear hz
  go_wp2_with fail
  go_ret
  exact⟨Qf (by rw[HR.out,HZ.out];simpa using hz2),hB2.trans (hb3.mono (by omega))⟩
 ·have hz2:C.length=0:=by simpa using hz
  have HZ:=hid hz
  clear hz
  go_wp2_with fail
  go_ret
  exact⟨Qf (by rw[HR.out,HZ.out]),hB2.trans (hb3.mono (by omega))⟩
def caR (t:Tr)(c:List Sp):Bool:=t.right 5&&cLeq (ctxOf t.dots) c
theorem QX (t:Tr)(c:List Sp)(ve vk vc:Value)(w:World)(h:t.rd w w.heap.size ve vk)(hc:SlP w w.heap.size 3 SpE vc c)(hN:t.sz<=4000)(hN':c.length<=20000) :
  Calls Tryz.prog 48 #[.agg #[ve,vk,vc]] w fun e w'=>e=.returned (.bool (caR t c))/\Below w.heap.size w w':=by
 have HC:Hid (∀ w',Below w.heap.size w w'->t.rd w' w'.heap.size ve vk):=fun w' hb=>Qi hb hb.size _ _ _ h
 have HS:Hid (∀ w',Below w.heap.size w w'->SlP w' w'.heap.size 3 SpE vc c):=fun w' hb=>hc.imp hb hb.size fun _ _ _ h=>h
 have hd1:=QQ t.dots
 have hd2:=Zh t
 obtain⟨A3,n3,A4,n4,rfl,rfl⟩:=Qk h
 obtain⟨A5,n5,rfl,_⟩:=hc
 clear h
 have hb0:Below w.heap.size w (w.alloc (.cells #[.slice A3 t.es.length n3,.slice A4 t.ks.length n4,.slice A5 c.length n5] 29)):=(Below.refl _ w).alloc (Nat.le_refl _) _
 go_enter Tryz.func48,Tryz.ntmps48
 go_wp2_with fail
 refine (YO t _ _ _ (HC.out _ hb0) (by omega)).mono ?_
 rintro e w1 ⟨v1,n1,rfl,hn1,ho1,hb1⟩
 have hs1:=hb1.size
 simp only[World.size_alloc]at hs1
 have hB1:Below w.heap.size w w1:=hb0.trans (hb1.mono (by simp))
 have b2:w1.cell? ⟨w.heap.size,2,none⟩=some (.slice A5 c.length n5):=by rw[hb1.cell (p:=⟨w.heap.size,2,none⟩) (by simp)];simp
 cases hr:t.right 5
 ·rw[hr]at hn1 ho1
  simp only[Bool.false_eq_true,if_false]at hn1 ho1
  subst hn1
  have HR:Hid (caR t c=false):=by unfold Hid caR;rw[hr];rfl
  obtain⟨A6,n6,rfl⟩:=ho1.shape
  clear hr ho1
  go_wp2_with fail
  go_ret
  exact⟨Qf HR.out.symm,hB1⟩
 ·rw[hr]at hn1 ho1
  simp only[if_true]at hn1 ho1
  subst hn1
  have HR:Hid (caR t c=cLeq (ctxOf t.dots) c):=by unfold Hid caR;rw[hr];rfl
  have HSL:=hid (ho1.sl (by unfold Big;omega))
  obtain⟨A6,n6,rfl⟩:=ho1.shape
  clear hr ho1
  go_wp2_with fail
  refine (zZp (ctxOf t.dots) c _ _ w1 HSL.out (HS.out _ hB1) (by omega) hN').mono ?_
  rintro e w2 ⟨rfl,hb2⟩
  go_wp2_with fail
  go_ret
  exact⟨Qf HR.out.symm,hB1.trans (hb2.mono (by omega))⟩
theorem qZm (l:List (Int×Int))(v:Value)(w:World)(h:SlP w w.heap.size 2 RuE v l) :
  Calls Tryz.prog 148 #[v] w fun e w'=>e=.returned (.bool (runsR none l))/\Below w.heap.size w w':=by
 obtain⟨A,n,rfl,b1,b2,b3⟩:=h
 unfold Big at b2
 go_enter Tryz.func148,Tryz.ntmps148
 go_wp2_with fail
 go_loopw [6] (fun i wr=>∃ k:Nat,k<=l.length/\i=.int .i64 k/\Hid (runsR (prevR l k) (l.drop k)=runsR none l)/\Hid (∀ h,prevR l k=some h->1<=h/\h<=1099511627776)/\Below w.heap.size w wr) (fun i _=>l.length-(intOf i).toNat)
 case atStart=>exact⟨0,Nat.zero_le _,rfl,rfl,fun _ h=>by simp[prevR]at h,Below.refl _ _⟩
 case round=>
  obtain⟨k,hk,rfl,hrel,hpr,hb⟩:=hrel
  have hsz:=hb.size
  by_cases hlt:k<l.length
  ·obtain⟨r,hx⟩:∃ x,l[k]?=some x:=⟨_,List.getElem?_eq_getElem hlt⟩
   obtain⟨b,off,rfl,hbB,hc⟩:=b3 (by rintro rfl;simp at hlt)
   obtain⟨cs,⟨rfl,hok⟩,_,hu⟩:=hc k _ hx
   have hi1:=hok.1
   unfold I64 at hi1
   have e0:wr.cell? ⟨b,off+k*2,none⟩=some (.int .i64 r.1):=(hb.cell hbB).trans (hu 0 _ rfl)
   have e1:wr.cell? ⟨b,off+k*2+1,none⟩=some (.int .i64 r.2):=(hb.cell hbB).trans (hu 1 _ rfl)
   have HR:Hid (runsR none l=(numB r.1&&numB r.2&&decide (r.1<=r.2)&&okR (prevR l k) r.1&&runsR (prevR l (k+1)) (l.drop (k+1)))):=by
    have:=hrel.out
    rw[QM hx,Jd]at this
    rw[YZ hx];exact this.symm
   have HPS:=hid (YZ hx)
   have f0:=Qh (B:=wr.heap.size) (w:=wr) (b:=b) (o:=off+k*2) (v:=.int .i64 r.1) e0 (by omega)
   have f1:=Qh (B:=wr.heap.size) (w:=wr) (b:=b) (o:=off+k*2+1) (v:=.int .i64 r.2) e1 (by omega)
   have hprev:∃ q:Int,(0<k->prevR l k=some q/\(∀ p:Far wr.heap.size wr,p.w'.cell? ⟨b,off+(k-1)*2+1,none⟩=some (.int .i64 q))):=by
    by_cases h0:0<k
    ·obtain⟨y,hy⟩:∃ y,l[k-1]?=some y:=⟨_,List.getElem?_eq_getElem (by omega)⟩
     obtain⟨cs,⟨rfl,_⟩,_,hu⟩:=hc (k-1) _ hy
     refine⟨y.2,fun _=>⟨by rw[prevR,if_neg (by omega),hy];rfl,fun p=>Qh ?_ (by omega) p⟩⟩
     exact (hb.cell hbB).trans (hu 1 _ rfl)
    ·exact⟨0,fun h=>absurd h h0⟩
   obtain⟨q,hprev⟩:=hprev
   go_upto_region 4 with (fail)
   clear hrel hu hc b3 hx e0 e1 hok
   rcases t1:decide (r.1<1)
   case true=>
    have h1:Hid (numB r.1=false):=by have:=of_decide_eq_true t1;unfold Hid;simp[numB];omega
    refine Qd wr.heap.size (by kernel_rfl) (by kernel_rfl) ?_
    repeat (go_big_quiet_step (fail))
    refine wpQuiet_nil ?_
    intro wq hbq
    have hbw:Below w.heap.size w wq:=hb.trans (hbq.mono (by omega))
    go_wp2_with fail
    go_ret
    refine⟨Qf ?_,hbw⟩
    rw[HR.out]
    rw[h1.out];simp
   rcases t2:decide (1099511627776<r.2)
   case true=>
    have h2:Hid (numB r.2=false):=by have:=of_decide_eq_true t2;unfold Hid;simp[numB];omega
    refine Qd wr.heap.size (by kernel_rfl) (by kernel_rfl) ?_
    repeat (go_big_quiet_step (fail))
    refine wpQuiet_nil ?_
    intro wq hbq
    have hbw:Below w.heap.size w wq:=hb.trans (hbq.mono (by omega))
    go_wp2_with fail
    go_ret
    refine⟨Qf ?_,hbw⟩
    rw[HR.out]
    rw[h2.out];simp
   rcases t3:decide (r.2<r.1)
   case true=>
    have h3:Hid (decide (r.1<=r.2)=false):=by have:=of_decide_eq_true t3;unfold Hid;simp;omega
    refine Qd wr.heap.size (by kernel_rfl) (by kernel_rfl) ?_
    repeat (go_big_quiet_step (fail))
    refine wpQuiet_nil ?_
    intro wq hbq
    have hbw:Below w.heap.size w wq:=hb.trans (hbq.mono (by omega))
    go_wp2_with fail
    go_ret
    refine⟨Qf ?_,hbw⟩
    rw[HR.out]
    rw[h3.out];simp
   have g1:=of_decide_eq_false t1
   have g2:=of_decide_eq_false t2
   have g3:=of_decide_eq_false t3
   have h3:Hid (decide (r.1<=r.2)=true):=by unfold Hid;simp;omega
   have h1:numB r.1=true:=by simp[numB];omega
   have h2:numB r.2=true:=by simp[numB];omega
   have HN:Hid (∀ h,prevR l (k+1)=some h->1<=h/\h<=1099511627776):=fun h hh=>by rw[HPS.out]at hh;cases hh;omega
   rcases Nat.eq_zero_or_pos k with h0|h0
   ·have t0:decide ((0:Int)<(k:Int))=false:=by simp;omega
    have t0':decide (0<k)=false:=by simp;omega
    have hpk:Hid (okR (prevR l k) r.1=true):=by rw[show prevR l k=none by (rw[h0];rfl)];rfl
    clear h0 hprev
    refine Qd wr.heap.size (by kernel_rfl) (by kernel_rfl) ?_
    repeat (go_big_quiet_step (fail))
    refine wpQuiet_nil ?_
    intro wq hbq
    have hbw:Below w.heap.size w wq:=hb.trans (hbq.mono (by omega))
    go_wp2_with fail
    go_roundw
    case rel=>
     refine⟨k+1,by omega,by go_num,?_,HN.out,hbw⟩
     show _=_
     rw[HR.out,h1,h2]
     rw[h3.out,hpk.out];simp
    case measure=>simp[intOf];omega
   ·obtain⟨hq,q0⟩:=hprev h0
    have hqb:=hpr.out q hq
    have hwq:IntKind.i64.wrap (r.1-q)=r.1-q:=IntWalk.i64_in _ (by omega)
    have hwk:IntKind.i64.wrap ((k:Int)-1)=(k:Int)-1:=IntWalk.i64_in _ (by omega)
    rcases t5:decide (r.1-q<2)
    ·have hpk:Hid (okR (prevR l k) r.1=true):=by rw[hq];have:=of_decide_eq_false t5;unfold Hid;simp[okR];omega
     clear hprev hq hqb
     refine Qd wr.heap.size (by kernel_rfl) (by kernel_rfl) ?_
     repeat (go_big_quiet_step (fail))
     refine wpQuiet_nil ?_
     intro wq hbq
     have hbw:Below w.heap.size w wq:=hb.trans (hbq.mono (by omega))
     go_wp2_with fail
     go_roundw
     case rel=>
      refine⟨k+1,by omega,by go_num,?_,HN.out,hbw⟩
      show _=_
      rw[HR.out,h1,h2]
      rw[h3.out,hpk.out];simp
     case measure=>simp[intOf];omega
    ·have hpk:Hid (okR (prevR l k) r.1=false):=by rw[hq];have:=of_decide_eq_true t5;unfold Hid;simp[okR];omega
     clear hprev hq hqb
     refine Qd wr.heap.size (by kernel_rfl) (by kernel_rfl) ?_
     repeat (go_big_quiet_step (fail))
     refine wpQuiet_nil ?_
     intro wq hbq
     have hbw:Below w.heap.size w wq:=hb.trans (hbq.mono (by omega))
     go_wp2_with fail
     go_ret
     refine⟨Qf ?_,hbw⟩
     rw[HR.out]
     rw[h1,h2,h3.out,hpk.out];simp
  ·obtain rfl:k=l.length:=by omega
   have hr:=hrel.out
   go_wp2_with fail
   go_ret
   exact⟨Qf (by rw[←hr];simp[runsR]),hb⟩
theorem Yd (c:List Sp)(vc:Value)(w:World)(h:SlP w w.heap.size 3 SpE vc c)(hN:c.length<=900000) :
  Calls Tryz.prog 101 #[vc] w fun e w'=>e=.returned (.bool (Qm c))/\Below w.heap.size w w':=by
 have HS:=hid h
 obtain⟨A,n,rfl,b1,b2,b3⟩:=h
 unfold Big at b2
 go_enter Tryz.func101,Tryz.ntmps101
 go_wp2_with fail
 go_loopw [7] (fun i wr=>∃ (k:Nat) (L:Int),k<=c.length/\i=.int .i64 k/\Hid (dcsOk L (c.drop k)=dcsOk 0 c)/\Hid (∀ y,0<k->c[k-1]?=some y->y.dc=L)/\Hid (k=0->L=0)/\0<=L/\Below w.heap.size w wr) (fun i _=>c.length-(intOf i).toNat)
 case atStart=>exact⟨0,0,Nat.zero_le _,rfl,rfl,fun _ h=>absurd h (Nat.not_lt_zero _),fun _=>rfl,Int.le_refl _,Below.refl _ _⟩
 case round=>
  obtain⟨k,L,hk,rfl,hrel,hpr,hz0,hL,hb⟩:=hrel
  have hsz:=hb.size
  by_cases hlt:k<c.length
  ·obtain⟨x,hx⟩:∃ x,c[k]?=some x:=⟨_,List.getElem?_eq_getElem hlt⟩
   obtain⟨b,off,rfl,hbB,hc⟩:=b3 (by rintro rfl;simp at hlt)
   obtain⟨cs,⟨rfl,hok⟩,_,hu⟩:=hc k _ hx
   have e0:wr.cell? ⟨b,off+k*3,none⟩=some (.int .i64 x.dc):=(hb.cell hbB).trans (hu 0 _ rfl)
   have HR:Hid (dcsOk 0 c=(decide (L<=x.dc)&&decide (x.dc<4)&&dcsOk x.dc (c.drop (k+1)))):=by
    have:=hrel.out
    rw[QM hx,dcsOk]at this
    exact this.symm
   have HQ:Hid (∀ y,0<k+1->c[k+1-1]?=some y->y.dc=x.dc):=fun y _ hy=>by
    rw[Nat.add_sub_cancel,hx]at hy;cases hy;rfl
   have f0:=Qh (B:=wr.heap.size) (w:=wr) (b:=b) (o:=off+k*3) (v:=.int .i64 x.dc) e0 (by omega)
   have hprev:0<k->(∀ p:Far wr.heap.size wr,p.w'.cell? ⟨b,off+(k-1)*3,none⟩=some (.int .i64 L)):=fun h0=>by
    obtain⟨y,hy⟩:∃ y,c[k-1]?=some y:=⟨_,List.getElem?_eq_getElem (by omega)⟩
    obtain⟨cs,⟨rfl,_⟩,_,hu⟩:=hc (k-1) _ hy
    intro p
    refine Qh ?_ (by omega) p
    rw[←hpr.out y h0 hy]
    exact (hb.cell hbB).trans (hu 0 _ rfl)
   go_upto_region 4 with (fail)
   clear hrel hu hc b3 hx e0 hok hpr
   rcases t1:decide (x.dc<0)
   case true=>
    have HF:Hid (Qm c=false):=by
     have:=of_decide_eq_true t1
     unfold Hid Qm;rw[HR.out,decide_eq_false (show ¬L<=x.dc by omega)];rfl
    refine Qd wr.heap.size (by kernel_rfl) (by kernel_rfl) ?_
    repeat (go_big_quiet_step (fail))
    refine wpQuiet_nil ?_
    intro wq hbq
    have hbw:Below w.heap.size w wq:=hb.trans (hbq.mono (by omega))
    go_wp2_with fail
    go_ret
    exact⟨Qf HF.out.symm,hbw⟩
   rcases t2:decide (4<=x.dc)
   case true=>
    have HF:Hid (Qm c=false):=by
     have:=of_decide_eq_true t2
     unfold Hid Qm;rw[HR.out,decide_eq_false (show ¬x.dc<4 by omega)];simp
    refine Qd wr.heap.size (by kernel_rfl) (by kernel_rfl) ?_
    repeat (go_big_quiet_step (fail))
    refine wpQuiet_nil ?_
    intro wq hbq
    have hbw:Below w.heap.size w wq:=hb.trans (hbq.mono (by omega))
    go_wp2_with fail
    go_ret
    exact⟨Qf HF.out.symm,hbw⟩
   have g1:0<=x.dc:=by have:=of_decide_eq_false t1;omega
   have g2:=of_decide_eq_false t2
   rcases Nat.eq_zero_or_pos k with h0|h0
   ·have t0:decide ((0:Int)<(k:Int))=false:=by simp;omega
    have t0':decide (0<k)=false:=by simp;omega
    have HG:Hid (dcsOk x.dc (c.drop (k+1))=dcsOk 0 c):=by
     unfold Hid;rw[HR.out,decide_eq_true (show L<=x.dc by have:=hz0.out h0;omega),decide_eq_true (show x.dc<4 by omega)];rfl
    clear h0 hprev
    refine Qd wr.heap.size (by kernel_rfl) (by kernel_rfl) ?_
    repeat (go_big_quiet_step (fail))
    refine wpQuiet_nil ?_
    intro wq hbq
    have hbw:Below w.heap.size w wq:=hb.trans (hbq.mono (by omega))
    go_wp2_with fail
    go_roundw
    case rel=>exact⟨k+1,x.dc,by omega,by go_num,HG.out,HQ.out,fun h=>absurd h (Nat.succ_ne_zero k),g1,hbw⟩
    case measure=>simp[intOf];omega
   ·have q0:=hprev h0
    have hwk:IntKind.i64.wrap ((k:Int)-1)=(k:Int)-1:=IntWalk.i64_in _ (by omega)
    clear hprev
    rcases t5:decide (x.dc<L)
    ·have HG:Hid (dcsOk x.dc (c.drop (k+1))=dcsOk 0 c):=by
      have:=of_decide_eq_false t5
      unfold Hid;rw[HR.out,decide_eq_true (show L<=x.dc by omega),decide_eq_true (show x.dc<4 by omega)];rfl
     refine Qd wr.heap.size (by kernel_rfl) (by kernel_rfl) ?_
     repeat (go_big_quiet_step (fail))
     refine wpQuiet_nil ?_
     intro wq hbq
     have hbw:Below w.heap.size w wq:=hb.trans (hbq.mono (by omega))
     go_wp2_with fail
     go_roundw
     case rel=>exact⟨k+1,x.dc,by omega,by go_num,HG.out,HQ.out,fun h=>absurd h (Nat.succ_ne_zero k),g1,hbw⟩
     case measure=>simp[intOf];omega
    ·have HF:Hid (Qm c=false):=by
      have:=of_decide_eq_true t5
      unfold Hid Qm;rw[HR.out,decide_eq_false (show ¬L<=x.dc by omega)];rfl
     refine Qd wr.heap.size (by kernel_rfl) (by kernel_rfl) ?_
     repeat (go_big_quiet_step (fail))
     refine wpQuiet_nil ?_
     intro wq hbq
     have hbw:Below w.heap.size w wq:=hb.trans (hbq.mono (by omega))
     go_wp2_with fail
     go_ret
     exact⟨Qf HF.out.symm,hbw⟩
  ·obtain rfl:k=c.length:=by omega
   have HD:Hid (dcsOk 0 c=true):=by
    have:=hrel.out
    rw[List.drop_of_length_le (Nat.le_refl _),dcsOk]at this
    exact this.symm
   clear hrel hpr hz0 b3
   go_wp2_with fail
   obtain⟨wo,rfl⟩:∃ wo:World,wo=wr:=⟨_,rfl⟩
   go_loopw [43] (fun i wr=>∃ k:Nat,k<=4/\i=.int .i64 k/\Hid (((List.range k).all fun (dc:Nat)=>runsR none (partL c dc))=true)/\Below w.heap.size w wr) (fun i _=>4-(intOf i).toNat)
   case atStart=>exact⟨0,Nat.zero_le _,rfl,rfl,hb⟩
   case round=>
    clear hb hsz
    obtain⟨k,hk,rfl,hrel,hb⟩:=hrel
    have hsz:=hb.size
    by_cases hlt:k<4
    ·have HA:Hid (((List.range (k+1)).all fun (dc:Nat)=>runsR none (partL c dc))=runsR none (partL c k)):=by
      unfold Hid;rw[List.range_succ,List.all_append,hrel.out];simp
     have hpl:=QO c k
     go_wp2_with fail
     refine (Yx c k _ wr (HS.out.imp hb hsz fun _ _ _ h=>h) (by omega)).mono ?_
     rintro e w1 ⟨v1,rfl,ho1,hb1⟩
     have hs1:=hb1.size
     have HO1:=hid (ho1.sl (by unfold Big;omega))
     clear ho1
     go_wp2_with fail
     refine (qZm (partL c k) _ w1 HO1.out).mono ?_
     rintro e w2 ⟨rfl,hb2⟩
     have hB2:Below w.heap.size w w2:=(hb.trans (hb1.mono hsz)).trans (hb2.mono (by omega))
     clear hb1 hb2
     rcases hq:runsR none (partL c k)
     ·have HF:Hid (Qm c=false):=by
       unfold Hid Qm
       rw[HD.out,Bool.true_and]
       refine List.all_eq_false.2 ⟨k,List.mem_range.2 hlt,?_⟩
       rw[hq];simp
      go_wp2_with fail
      go_ret
      exact⟨Qf HF.out.symm,hB2⟩
     ·have HA2:Hid (((List.range (k+1)).all fun (dc:Nat)=>runsR none (partL c dc))=true):=by unfold Hid;rw[HA.out,hq]
      go_wp2_with fail
      go_roundw
      case rel=>exact⟨k+1,by omega,by go_num,HA2.out,hB2⟩
      case measure=>simp[intOf];omega
    ·obtain rfl:k=4:=by omega
     have HT:Hid (Qm c=true):=by unfold Hid Qm;rw[HD.out,hrel.out];rfl
     go_wp2_with fail
     go_ret
     exact⟨Qf HT.out.symm,hb⟩
def rLeq (a b:List Sp):Bool:=decide ((ctxBy a b 2).length=0)
theorem VC (a b:List Sp)(va vb:Value)(w:World)(ha:SlP w w.heap.size 3 SpE va a)(hb:SlP w w.heap.size 3 SpE vb b)(hN:a.length<=50000)(hN':b.length<=50000)(hR:SpsOk a)(hR':SpsOk b) :
  Calls Tryz.prog 102 #[va,vb] w fun e w'=>e=.returned (.bool (rLeq a b))/\Below w.heap.size w w':=by
 go_enter Tryz.func102,Tryz.ntmps102
 go_wp2_with fail
 refine (qQs a b 2 _ _ w ha hb hN hN' hR hR' (by simp)).mono ?_
 rintro e w3 ⟨v3,rfl,ho3,hb3⟩
 obtain⟨A5,c5,rfl⟩:=ho3.shape
 have HR0:Hid (rLeq a b=decide ((ctxBy a b 2).length=0)):=rfl
 have hl:=Ys a b 2
 clear ho3
 generalize ctxBy a b 2=C at *
 rcases hz:decide (C.length=0)
 ·have hz2:C.length≠0:=by simpa using hz
  have HZ:=hid hz
  clear hz
  go_wp2_with fail
  go_ret
  exact⟨Qf (by rw[HR0.out,HZ.out];simpa using hz2),hb3⟩
 ·have hz2:C.length=0:=by simpa using hz
  have HZ:=hid hz
  clear hz
  go_wp2_with fail
  go_ret
  exact⟨Qf (by rw[HR0.out,HZ.out]),hb3⟩
theorem Zy {c:List Sp}(h:Qm c=true):SpsOk c:=fun s hs=>by
 have hd:=Z3 c 0 (by unfold Qm at h;simp at h;exact h.1) s hs
 obtain⟨i,hi⟩:∃ i:Nat,(i:Int)=s.dc:=⟨s.dc.toNat,by omega⟩
 have hr:=Qx h (i:=i) (by omega)
 have hm:(s.fr,s.hi)∈partL c (i:Int):=by
  unfold partL
  exact List.mem_map.2 ⟨s,List.mem_filter.2 ⟨hs,by simp[hi]⟩,rfl⟩
 have:=Kh _ none hr _ hm
 unfold runOk at this
 exact⟨by show 0<=s.fr;simp at this;omega,by show s.fr<=_;simp at this;omega,by show 0<=s.hi;simp at this;omega,by show s.hi<=_;simp at this;omega⟩
def r9R (t:Tr)(c:List Sp):Bool:=t.right 5&&(Qm c&&rLeq (ctxOf t.dots) c)
theorem zXv (t:Tr)(c:List Sp):caR t c=r9R t c:=by
 unfold caR r9R cLeq rLeq
 cases h:t.right 5
 ·rfl
 ·rw[Qr (Q8 t 5 h)];rfl
theorem qZn (t:Tr)(c:List Sp)(ve vk vc:Value)(w:World)(h:t.rd w w.heap.size ve vk)(hc:SlP w w.heap.size 3 SpE vc c)(hN:t.sz<=4000)(hN':c.length<=20000) :
  Calls Tryz.prog 52 #[.agg #[ve,vk,vc]] w fun e w'=>e=.returned (.bool (r9R t c))/\Below w.heap.size w w':=by
 have HC:Hid (∀ w',Below w.heap.size w w'->t.rd w' w'.heap.size ve vk):=fun w' hb=>Qi hb hb.size _ _ _ h
 have HS:Hid (∀ w',Below w.heap.size w w'->SlP w' w'.heap.size 3 SpE vc c):=fun w' hb=>hc.imp hb hb.size fun _ _ _ h=>h
 have hd1:=QQ t.dots
 have hd2:=Zh t
 have hcl:(ctxOf t.dots).length<=50000:=by omega
 have HBL:Hid ((ctxOf t.dots).length<=Big):=by unfold Hid Big;omega
 obtain⟨A3,n3,A4,n4,rfl,rfl⟩:=Qk h
 obtain⟨A5,n5,rfl,_⟩:=hc
 clear h
 have hb0:Below w.heap.size w (w.alloc (.cells #[.slice A3 t.es.length n3,.slice A4 t.ks.length n4,.slice A5 c.length n5] 29)):=(Below.refl _ w).alloc (Nat.le_refl _) _
 have HB:Hid (∀ w',Below (w.heap.size+1) (w.alloc (.cells #[.slice A3 t.es.length n3,.slice A4 t.ks.length n4,.slice A5 c.length n5] 29)) w'->Below w.heap.size w w'/\t.rd w' w'.heap.size (.slice A3 t.es.length n3) (.slice A4 t.ks.length n4)/\SlP w' w'.heap.size 3 SpE (.slice A5 c.length n5) c/\(w'.cell? ⟨w.heap.size,0,none⟩=some (.slice A3 t.es.length n3)/\w'.cell? ⟨w.heap.size,1,none⟩=some (.slice A4 t.ks.length n4)/\w'.cell? ⟨w.heap.size,2,none⟩=some (.slice A5 c.length n5))):=fun w' hb=>by
  have hB:=hb0.trans (hb.mono (by omega))
  refine⟨hB,HC.out _ hB,HS.out _ hB,?_,?_,?_⟩
  ·rw[hb.cell (p:=⟨w.heap.size,0,none⟩) (by simp),World.cell?_alloc_new];rfl
  ·rw[hb.cell (p:=⟨w.heap.size,1,none⟩) (by simp),World.cell?_alloc_new];rfl
  ·rw[hb.cell (p:=⟨w.heap.size,2,none⟩) (by simp),World.cell?_alloc_new];rfl
 go_enter Tryz.func52,Tryz.ntmps52
 cases r1:t.right 5
 ·have HR1:=hid r1
  have HF:Hid (r9R t c=false):=by unfold Hid r9R;rw[r1];rfl
  clear r1
  have f0:=Qh (B:=w.heap.size+1) (w:=w.alloc (.cells #[.slice A3 t.es.length n3,.slice A4 t.ks.length n4,.slice A5 c.length n5] 29)) (b:=w.heap.size) (o:=0) (v:=.slice A3 t.es.length n3) (by simp) (by omega)
  have f1:=Qh (B:=w.heap.size+1) (w:=w.alloc (.cells #[.slice A3 t.es.length n3,.slice A4 t.ks.length n4,.slice A5 c.length n5] 29)) (b:=w.heap.size) (o:=1) (v:=.slice A4 t.ks.length n4) (by simp) (by omega)
  have f2:=Qh (B:=w.heap.size+1) (w:=w.alloc (.cells #[.slice A3 t.es.length n3,.slice A4 t.ks.length n4,.slice A5 c.length n5] 29)) (b:=w.heap.size) (o:=2) (v:=.slice A5 c.length n5) (by simp) (by omega)
  go_upto_region 1 with (fail)
  refine Qd (w.heap.size+1) (by kernel_rfl) (by kernel_rfl) ?_
  repeat (go_big_quiet_step (first|(go_at_call 23;exact Calls.far_all (by simp) (fun w' hb'=>HR1.out▸QP t w' _ _ (HB.out w' hb').2.1))|(go_at_call 101;exact Calls.far_all (by simp) (fun w' hb'=>HR2.out▸Yd c _ w' (HB.out w' hb').2.2.1 (by omega)))))
  refine wpQuiet_nil ?_
  intro wq hbq
  go_wp2_with fail
  go_ret
  exact⟨Qf HF.out.symm,(HB.out _ hbq).1⟩
 have HR1:=hid r1
 cases r2:Qm c
 ·have HR2:=hid r2
  have HF:Hid (r9R t c=false):=by unfold Hid r9R;rw[r1,r2];rfl
  clear r1 r2
  have f0:=Qh (B:=w.heap.size+1) (w:=w.alloc (.cells #[.slice A3 t.es.length n3,.slice A4 t.ks.length n4,.slice A5 c.length n5] 29)) (b:=w.heap.size) (o:=0) (v:=.slice A3 t.es.length n3) (by simp) (by omega)
  have f1:=Qh (B:=w.heap.size+1) (w:=w.alloc (.cells #[.slice A3 t.es.length n3,.slice A4 t.ks.length n4,.slice A5 c.length n5] 29)) (b:=w.heap.size) (o:=1) (v:=.slice A4 t.ks.length n4) (by simp) (by omega)
  have f2:=Qh (B:=w.heap.size+1) (w:=w.alloc (.cells #[.slice A3 t.es.length n3,.slice A4 t.ks.length n4,.slice A5 c.length n5] 29)) (b:=w.heap.size) (o:=2) (v:=.slice A5 c.length n5) (by simp) (by omega)
  go_upto_region 1 with (fail)
  refine Qd (w.heap.size+1) (by kernel_rfl) (by kernel_rfl) ?_
  repeat (go_big_quiet_step (first|(go_at_call 23;exact Calls.far_all (by simp) (fun w' hb'=>HR1.out▸QP t w' _ _ (HB.out w' hb').2.1))|(go_at_call 101;exact Calls.far_all (by simp) (fun w' hb'=>HR2.out▸Yd c _ w' (HB.out w' hb').2.2.1 (by omega)))))
  refine wpQuiet_nil ?_
  intro wq hbq
  go_wp2_with fail
  go_ret
  exact⟨Qf HF.out.symm,(HB.out _ hbq).1⟩
 have HR2:=hid r2
 have HF:Hid (r9R t c=rLeq (ctxOf t.dots) c):=by unfold Hid r9R;rw[r1,r2];rfl
 have HRN:Hid (∀ d∈t.dots,0<=d.n/\d.n<=1099511627778):=Vu r1
 have HS1:=hid (Xo (Q8 t 5 r1))
 have HS2:=hid (Zy r2)
 clear r1 r2 hd1 hd2
 have hr3:rLeq (ctxOf t.dots) c=rLeq (ctxOf t.dots) c:=rfl
 cases r3:rLeq (ctxOf t.dots) c
 ·have HR3:=hid r3
  clear r3
  go_upto_region 1 with (fail)
  go_region_held3 (fun w'=>w'.cell? ⟨w.heap.size,0,none⟩=some (.slice A3 t.es.length n3)/\w'.cell? ⟨w.heap.size,1,none⟩=some (.slice A4 t.ks.length n4)/\w'.cell? ⟨w.heap.size,2,none⟩=some (.slice A5 c.length n5))
   (first|go_keep|exact (HB.out _ hb4.out).2.2.2|exact (HB.out _ hb3.out).2.2.2|exact (HB.out _ hb2.out).2.2.2|exact (HB.out _ hb1.out).2.2.2)
   (first
       |(go_at_call 23;go_loud ((refine (QP t _ _ _ (HB.out _ (by go_grown)).2.1).mono ?_);rw[HR1.out];rintro e w1 ⟨rfl,hb⟩;have hb1:Hid (Below (w.heap.size+1) (w.alloc (.cells #[.slice A3 t.es.length n3,.slice A4 t.ks.length n4,.slice A5 c.length n5] 29)) w1):=(Below.trans (by go_grown) (hb.mono (by simp)))))
       |(go_at_call 101;go_loud ((refine (Yd c _ w1 (HB.out _ hb1.out).2.2.1 (by omega)).mono ?_);rw[HR2.out];rintro e w2 ⟨rfl,hb⟩;have hb2:=hid (hb1.out.trans (hb.mono (by have:=hb1.out.size;simpa using this)))))
       |(go_at_call 63;go_loud ((refine (Zr t w2 _ _ (HB.out _ hb2.out).2.1 (by omega) HRN.out).mono ?_);rintro e w3 ⟨v3,rfl,ho3,hb⟩;have hb3:=hid (hb2.out.trans (hb.mono (by have:=hb2.out.size;simpa using this)));have hsl3:=hid (ho3.sl HBL.out);obtain⟨A9,c9,hv9⟩:=ho3.shape;subst hv9;clear ho3))
       |(go_at_call 102;go_loud ((refine (VC (ctxOf t.dots) c _ _ w3 hsl3.out (HB.out _ hb3.out).2.2.1 hcl (by omega) HS1.out HS2.out).mono ?_);rw[HR3.out];rintro e w4 ⟨rfl,hb⟩;have hb4:=hid (hb3.out.trans (hb.mono (by have:=hb3.out.size;simpa using this))))))
  go_wp2_with fail
  go_ret
  exact⟨Qf (by rw[HF.out,HR3.out]),(HB.out _ hb4.out).1⟩
 ·have HR3:=hid r3
  clear r3
  go_upto_region 1 with (fail)
  go_region_held3 (fun w'=>w'.cell? ⟨w.heap.size,0,none⟩=some (.slice A3 t.es.length n3)/\w'.cell? ⟨w.heap.size,1,none⟩=some (.slice A4 t.ks.length n4)/\w'.cell? ⟨w.heap.size,2,none⟩=some (.slice A5 c.length n5))
   (first|go_keep|exact (HB.out _ hb4.out).2.2.2|exact (HB.out _ hb3.out).2.2.2|exact (HB.out _ hb2.out).2.2.2|exact (HB.out _ hb1.out).2.2.2)
   (first
       |(go_at_call 23;go_loud ((refine (QP t _ _ _ (HB.out _ (by go_grown)).2.1).mono ?_);rw[HR1.out];rintro e w1 ⟨rfl,hb⟩;have hb1:Hid (Below (w.heap.size+1) (w.alloc (.cells #[.slice A3 t.es.length n3,.slice A4 t.ks.length n4,.slice A5 c.length n5] 29)) w1):=(Below.trans (by go_grown) (hb.mono (by simp)))))
       |(go_at_call 101;go_loud ((refine (Yd c _ w1 (HB.out _ hb1.out).2.2.1 (by omega)).mono ?_);rw[HR2.out];rintro e w2 ⟨rfl,hb⟩;have hb2:=hid (hb1.out.trans (hb.mono (by have:=hb1.out.size;simpa using this)))))
       |(go_at_call 63;go_loud ((refine (Zr t w2 _ _ (HB.out _ hb2.out).2.1 (by omega) HRN.out).mono ?_);rintro e w3 ⟨v3,rfl,ho3,hb⟩;have hb3:=hid (hb2.out.trans (hb.mono (by have:=hb2.out.size;simpa using this)));have hsl3:=hid (ho3.sl HBL.out);obtain⟨A9,c9,hv9⟩:=ho3.shape;subst hv9;clear ho3))
       |(go_at_call 102;go_loud ((refine (VC (ctxOf t.dots) c _ _ w3 hsl3.out (HB.out _ hb3.out).2.2.1 hcl (by omega) HS1.out HS2.out).mono ?_);rw[HR3.out];rintro e w4 ⟨rfl,hb⟩;have hb4:=hid (hb3.out.trans (hb.mono (by have:=hb3.out.size;simpa using this))))))
  go_wp2_with fail
  go_ret
  exact⟨Qf (by rw[HF.out,HR3.out]),(HB.out _ hb4.out).1⟩
def sml9 (t:Tr)(c:List Sp)(n:Int):Bool:=smlB t n&&decide ((c.length:Int)<=n)
theorem qZo (t:Tr)(c:List Sp)(n:Int)(ve vk vc:Value)(w:World)(h:t.rd w w.heap.size ve vk)(hc:SlP w w.heap.size 3 SpE vc c)(hn:0<=n)(hn':n<=1000) :
  Calls Tryz.prog 49 #[.agg #[ve,vk,vc],.int .i64 n] w fun e w'=>e=.returned (.bool (sml9 t c n))/\Below w.heap.size w w':=by
 have HC:Hid (∀ w',Below w.heap.size w w'->t.rd w' w'.heap.size ve vk):=fun w' hb=>Qi hb hb.size _ _ _ h
 obtain⟨A3,n3,A4,n4,rfl,rfl⟩:=Qk h
 obtain⟨A5,n5,rfl,_,hcl,_⟩:=hc
 unfold Big at hcl
 clear h
 have hb0:Below w.heap.size w (w.alloc (.cells #[.slice A3 t.es.length n3,.slice A4 t.ks.length n4,.slice A5 c.length n5] 29)):=(Below.refl _ w).alloc (Nat.le_refl _) _
 go_enter Tryz.func49,Tryz.ntmps49
 go_wp2_with fail
 refine (qQ7 t _ _ _ n (HC.out _ hb0) hn hn').mono ?_
 rintro e w1 ⟨rfl,hb1⟩
 rw[show decide (0<=t.room n 8)=smlB t n from rfl]
 have hB1:Below w.heap.size w w1:=hb0.trans (hb1.mono (by simp))
 have c2:w1.cell? ⟨w.heap.size,2,none⟩=some (.slice A5 c.length n5):=by rw[hb1.cell (p:=⟨w.heap.size,2,none⟩) (by simp),World.cell?_alloc_new];rfl
 cases hs:smlB t n
 ·have HF:Hid (sml9 t c n=false):=by unfold Hid sml9;rw[hs];rfl
  clear hs
  go_wp2_with fail
  go_ret
  exact⟨Qf HF.out.symm,hB1⟩
 ·have HF:Hid (sml9 t c n=decide ((c.length:Int)<=n)):=by unfold Hid sml9;rw[hs];rfl
  clear hs
  go_wp2_with fail
  go_ret
  exact⟨Qf HF.out.symm,hB1⟩
theorem qW7 (ca cb:List Sp)(n:Nat)(a b:Tr)(va ka vb kb vca vcb:Value)(w:World)(ha:a.rd w w.heap.size va ka)(hb:b.rd w w.heap.size vb kb)(hca:SlP w w.heap.size 3 SpE vca ca)(hcb:SlP w w.heap.size 3 SpE vcb cb)(hoa:a.Ord)(hob:b.Ord)(hda:a.dep<=n)(hdb:b.dep<=n)(hza:a.sz<=100000)(hzb:b.sz<=100000)(hra:Qm ca=true)(hrb:Qm cb=true)(hN1:ca.length<=20000)(hN2:cb.length<=20000) :
  Calls Tryz.prog 68 #[.agg #[va,ka,vca],.agg #[vb,kb,vcb]] w (RetC w (joinT n ca cb a b) (ctxBy ca cb 0)):=by
 have HA:=hid ha
 have HB:=hid hb
 have HCA:Hid (∀ w',Below w.heap.size w w'->SlP w' w'.heap.size 3 SpE vca ca):=fun w' hb=>hca.imp hb hb.size fun _ _ _ h=>h
 have HCB:Hid (∀ w',Below w.heap.size w w'->SlP w' w'.heap.size 3 SpE vcb cb):=fun w' hb=>hcb.imp hb hb.size fun _ _ _ h=>h
 have HR1:=hid hra
 have HR2:=hid hrb
 have hul:=Zp ca cb 0 4
 have HUL:Hid ((ctxBy ca cb 0).length<=Big):=by unfold Hid ctxBy Big;omega
 obtain⟨A1,n1,A2,n2,rfl,rfl⟩:=Qk ha
 obtain⟨A3,n3,A4,n4,rfl,rfl⟩:=Qk hb
 obtain⟨A5,n5,rfl,_⟩:=hca
 obtain⟨A6,n6,rfl,_⟩:=hcb
 have HX:Hid (∀ W,Below (w.heap.size+3) (((w.alloc (.cells #[.slice A1 a.es.length n1,.slice A2 a.ks.length n2,.slice A5 ca.length n5] 29)).alloc (.cells #[.slice A3 b.es.length n3,.slice A4 b.ks.length n4,.slice A6 cb.length n6] 29)).alloc (.cells #[.slice none 0 0,.slice none 0 0,.slice none 0 0] 29)) W->Below w.heap.size w W/\W.heap[w.heap.size+2]?=some (.cells #[.slice none 0 0,.slice none 0 0,.slice none 0 0] 29 (0,0))/\w.heap.size+3<=W.heap.size/\(W.cell? ⟨w.heap.size,0,none⟩=some (.slice A1 a.es.length n1)/\W.cell? ⟨w.heap.size,1,none⟩=some (.slice A2 a.ks.length n2)/\W.cell? ⟨w.heap.size,2,none⟩=some (.slice A5 ca.length n5)/\W.cell? ⟨w.heap.size+1,0,none⟩=some (.slice A3 b.es.length n3)/\W.cell? ⟨w.heap.size+1,1,none⟩=some (.slice A4 b.ks.length n4)/\W.cell? ⟨w.heap.size+1,2,none⟩=some (.slice A6 cb.length n6))):=fun W hW=>by
  have g0:W.heap[w.heap.size]?=some (.cells #[.slice A1 a.es.length n1,.slice A2 a.ks.length n2,.slice A5 ca.length n5] 29 (0,0)):=(hW.block _ (by omega)).trans ((Qg (by simp<;>omega)).trans ((Qg (by simp)).trans (Qc rfl)))
  have g1:W.heap[w.heap.size+1]?=some (.cells #[.slice A3 b.es.length n3,.slice A4 b.ks.length n4,.slice A6 cb.length n6] 29 (0,0)):=(hW.block _ (by omega)).trans ((Qg (by simp)).trans (Qc (by simp)))
  have g2:W.heap[w.heap.size+2]?=some (.cells #[.slice none 0 0,.slice none 0 0,.slice none 0 0] 29 (0,0)):=(hW.block _ (by omega)).trans (Qc (by simp))
  exact⟨((((Below.refl _ w).alloc (Nat.le_refl _) _).alloc (by simp) _).alloc (by simp;omega) _).trans (hW.mono (by omega)),g2,by have:=hW.size;simpa using this,Qa (i:=0) g0,Qa (i:=1) g0,Qa (i:=2) g0,Qa (i:=0) g1,Qa (i:=1) g1,Qa (i:=2) g1⟩
 have hneA:w.heap.size+1+1≠w.heap.size:=by omega
 have hneB:w.heap.size≠w.heap.size+1+1:=by omega
 clear ha hb
 go_enter Tryz.func68,Tryz.ntmps68
 go_upto_region 1 with (fail)
 go_region_held3 (fun w'=>w'.cell? ⟨w.heap.size,0,none⟩=some (.slice A1 a.es.length n1)/\w'.cell? ⟨w.heap.size,1,none⟩=some (.slice A2 a.ks.length n2)/\w'.cell? ⟨w.heap.size,2,none⟩=some (.slice A5 ca.length n5)/\w'.cell? ⟨w.heap.size+1,0,none⟩=some (.slice A3 b.es.length n3)/\w'.cell? ⟨w.heap.size+1,1,none⟩=some (.slice A4 b.ks.length n4)/\w'.cell? ⟨w.heap.size+1,2,none⟩=some (.slice A6 cb.length n6))
  (first|go_keep|exact (HX.out _ hbk2.out).2.2.2|exact (HX.out _ hbk1.out).2.2.2)
  (first
      |(go_at_call 117;go_loud ((refine (qVd ca cb (by omega) (by omega) n a b _ _ _ _ _ _ _ (Qi (HX.out _ (by go_grown)).1 (HX.out _ (by go_grown)).1.size _ _ _ HA.out) (Qi (HX.out _ (by go_grown)).1 (HX.out _ (by go_grown)).1.size _ _ _ HB.out) (HCA.out _ (HX.out _ (by go_grown)).1) (HCB.out _ (HX.out _ (by go_grown)).1) hoa hob hda hdb hza hzb).mono ?_);rintro e w1 ⟨ve1,vk1,rfl,hrd1,hb⟩;obtain⟨Av,nv,Aw,nw,rfl,rfl⟩:=Qj hrd1;have HR:=hid hrd1;have hbk1:Hid (Below (w.heap.size+3) (((w.alloc (.cells #[.slice A1 a.es.length n1,.slice A2 a.ks.length n2,.slice A5 ca.length n5] 29)).alloc (.cells #[.slice A3 b.es.length n3,.slice A4 b.ks.length n4,.slice A6 cb.length n6] 29)).alloc (.cells #[.slice none 0 0,.slice none 0 0,.slice none 0 0] 29)) w1):=(Below.trans (by go_grown) (hb.mono (by simp)));clear hrd1 hb))
      |(go_at_call 118;go_loud ((refine (Y3 ca cb _ _ w1 (HCA.out _ (HX.out _ hbk1.out).1) (HCB.out _ (HX.out _ hbk1.out).1) HR1.out HR2.out hN1 hN2).mono ?_);rintro e w2 ⟨v2,rfl,ho2,hb2⟩;obtain⟨A7,c7,hv7⟩:=ho2.shape;subst hv7;have HO2:=hid ho2;have hbk2:=hid (hbk1.out.trans (hb2.mono (HX.out _ hbk1.out).2.2.1));have HG2:=hid (HX.out _ hbk2.out).2.1;have k0:w2.cell? ⟨w.heap.size+2,0,none⟩=some (.slice none 0 0):=Qa (i:=0) HG2.out;have k1:w2.cell? ⟨w.heap.size+2,1,none⟩=some (.slice none 0 0):=Qa (i:=1) HG2.out;have k2:w2.cell? ⟨w.heap.size+2,2,none⟩=some (.slice none 0 0):=Qa (i:=2) HG2.out;have z0:=Qb (i:=0) HG2.out;have z1:=Qb (i:=1) HG2.out;have z2:=Qb (i:=2) HG2.out;have HB2:=hid hb2;clear ho2 hb2)))
 all_goals (
  go_wp2_with fail
  have hs2:w.heap.size+3<=w2.heap.size:=(HX.out _ hbk2.out).2.2.1
  have hs1:w.heap.size+3<=w1.heap.size:=(HX.out _ hbk1.out).2.2.1
  have hs12:=HB2.out.size
  obtain⟨r0,r1,r2,hK,hS⟩:=box3 HG2.out (.slice Av (joinT n ca cb a b).es.length nv) (.slice Aw (joinT n ca cb a b).ks.length nw) (.slice A7 (ctxBy ca cb 0).length c7)
  have hBW:Below w.heap.size w (((w2.setCell ⟨w.heap.size+2,0,none⟩ (.slice Av (joinT n ca cb a b).es.length nv)).setCell ⟨w.heap.size+2,1,none⟩ (.slice Aw (joinT n ca cb a b).ks.length nw)).setCell ⟨w.heap.size+2,2,none⟩ (.slice A7 (ctxBy ca cb 0).length c7)):=(((HX.out _ hbk2.out).1.setCell (by simp) _).setCell (by simp) _).setCell (by simp) _
  clear k0 k1 k2 z0 z1 z2
  generalize (((w2.setCell ⟨w.heap.size+2,0,none⟩ (.slice Av (joinT n ca cb a b).es.length nv)).setCell ⟨w.heap.size+2,1,none⟩ (.slice Aw (joinT n ca cb a b).ks.length nw)).setCell ⟨w.heap.size+2,2,none⟩ (.slice A7 (ctxBy ca cb 0).length c7))=W at *
  refine bodyPost_ret (v:=.agg #[.slice Av (joinT n ca cb a b).es.length nv,.slice Aw (joinT n ca cb a b).ks.length nw,.slice A7 (ctxBy ca cb 0).length c7]) (by simp[results,Tryz.results68,go_sem,r0,r1,r2]) rfl ⟨_,_,_,rfl,?_,?_,hBW⟩
  ·exact Qp (fun b hb=>(hK b (by have:=hb.1;simp only[World.size_alloc,World.size_drew]at this;omega)).trans (HB2.out.block b hb.2)) (fun b hb=>⟨by have:=hb.1;simp only[World.size_alloc,World.size_drew]at this;omega,by have:=hb.2;omega⟩) _ _ _ HR.out
  ·exact (HO2.out.sla HUL.out).up (fun b hb=>hK b (by have:=hb.1;omega)) (fun b hb=>⟨by have:=hb.1;omega,by have:=hb.2.1;omega⟩) (fun _ _ _ h=>h))
theorem Kl {t:Tr}{c:List Sp}(h:caR t c=true):t.right 5=true:=by unfold caR at h;simp at h;exact h.1
theorem Km {t:Tr}{c:List Sp}(h:caR t c=true):Qm c=true:=by rw[zXv]at h;unfold r9R at h;simp at h;exact h.2.1
theorem qW8 {t:Tr}{c:List Sp}(h:caR t c=true):t.Ord:=Zb t 5 (Kl h)
theorem qX4 {t:Tr}{c:List Sp}(h:caR t c=true):t.dep<=6:=by have:=qZe t 5 (Kl h);omega
def jnE (a b:Tr)(ca cb:List Sp):Int:=if caR a ca&&caR b cb then 0 else 1
def jnT (a b:Tr)(ca cb:List Sp):Tr:=if caR a ca&&caR b cb then joinT 6 ca cb a b else .mk [] []
def jnC (a b:Tr)(ca cb:List Sp):List Sp:=if caR a ca&&caR b cb then ctxBy ca cb 0 else []
theorem XV (ca cb:List Sp)(a b:Tr)(va ka vb kb vca vcb:Value)(w:World)(ha:a.rd w w.heap.size va ka)(hb:b.rd w w.heap.size vb kb)(hca:SlP w w.heap.size 3 SpE vca ca)(hcb:SlP w w.heap.size 3 SpE vcb cb)(hza:a.sz<=4000)(hzb:b.sz<=4000)(hN1:ca.length<=20000)(hN2:cb.length<=20000) :
  Calls Tryz.prog 28 #[.agg #[va,ka,vca],.agg #[vb,kb,vcb]] w (RetCE w (jnT a b ca cb) (jnC a b ca cb) (jnE a b ca cb)):=by
 have HA:=hid ha
 have HB:=hid hb
 have HCA:Hid (∀ w',Below w.heap.size w w'->SlP w' w'.heap.size 3 SpE vca ca):=fun w' hb=>hca.imp hb hb.size fun _ _ _ h=>h
 have HCB:Hid (∀ w',Below w.heap.size w w'->SlP w' w'.heap.size 3 SpE vcb cb):=fun w' hb=>hcb.imp hb hb.size fun _ _ _ h=>h
 obtain⟨A1,n1,A2,n2,rfl,rfl⟩:=Qk ha
 obtain⟨A3,n3,A4,n4,rfl,rfl⟩:=Qk hb
 obtain⟨A5,n5,rfl,_⟩:=hca
 obtain⟨A6,n6,rfl,_⟩:=hcb
 have HX:Hid (∀ W,Below (w.heap.size+3) (((w.alloc (.cells #[.slice A1 a.es.length n1,.slice A2 a.ks.length n2,.slice A5 ca.length n5] 29)).alloc (.cells #[.slice A3 b.es.length n3,.slice A4 b.ks.length n4,.slice A6 cb.length n6] 29)).alloc (.cells #[.slice none 0 0,.slice none 0 0,.slice none 0 0] 29)) W->Below w.heap.size w W/\W.heap[w.heap.size+2]?=some (.cells #[.slice none 0 0,.slice none 0 0,.slice none 0 0] 29 (0,0))/\w.heap.size+3<=W.heap.size/\(W.cell? ⟨w.heap.size,0,none⟩=some (.slice A1 a.es.length n1)/\W.cell? ⟨w.heap.size,1,none⟩=some (.slice A2 a.ks.length n2)/\W.cell? ⟨w.heap.size,2,none⟩=some (.slice A5 ca.length n5)/\W.cell? ⟨w.heap.size+1,0,none⟩=some (.slice A3 b.es.length n3)/\W.cell? ⟨w.heap.size+1,1,none⟩=some (.slice A4 b.ks.length n4)/\W.cell? ⟨w.heap.size+1,2,none⟩=some (.slice A6 cb.length n6))):=fun W hW=>by
  have g0:W.heap[w.heap.size]?=some (.cells #[.slice A1 a.es.length n1,.slice A2 a.ks.length n2,.slice A5 ca.length n5] 29 (0,0)):=(hW.block _ (by omega)).trans ((Qg (by simp<;>omega)).trans ((Qg (by simp)).trans (Qc rfl)))
  have g1:W.heap[w.heap.size+1]?=some (.cells #[.slice A3 b.es.length n3,.slice A4 b.ks.length n4,.slice A6 cb.length n6] 29 (0,0)):=(hW.block _ (by omega)).trans ((Qg (by simp)).trans (Qc (by simp)))
  have g2:W.heap[w.heap.size+2]?=some (.cells #[.slice none 0 0,.slice none 0 0,.slice none 0 0] 29 (0,0)):=(hW.block _ (by omega)).trans (Qc (by simp))
  exact⟨((((Below.refl _ w).alloc (Nat.le_refl _) _).alloc (by simp) _).alloc (by simp;omega) _).trans (hW.mono (by omega)),g2,by have:=hW.size;simpa using this,Qa (i:=0) g0,Qa (i:=1) g0,Qa (i:=2) g0,Qa (i:=0) g1,Qa (i:=1) g1,Qa (i:=2) g1⟩
 clear ha hb
 go_enter Tryz.func28,Tryz.ntmps28
 cases hc1:caR a ca
 ·have HR1:=hid hc1
  have HR2:Hid (caR b cb=caR b cb):=rfl
  have HE:Hid (jnE a b ca cb=1):=by unfold Hid jnE;rw[hc1];rfl
  have HTT:Hid (jnT a b ca cb=.mk [] []):=by unfold Hid jnT;rw[hc1];rfl
  have HCC:Hid (jnC a b ca cb=[]):=by unfold Hid jnC;rw[hc1];rfl
  clear hc1
  have hB0:=(HX.out _ (Below.refl _ _)).1
  go_wp2_with fail
  refine (QX a ca _ _ _ _ (Qi hB0 hB0.size _ _ _ HA.out) (HCA.out _ hB0) hza hN1).mono ?_
  rw[HR1.out]
  rintro e w1 ⟨rfl,hb1⟩
  have hbq1:=hid (hb1.mono (show w.heap.size+3<=_ by simp))
  clear hb1 hB0
  obtain⟨hB1,hG,hsq,q0,q1,q2,q3,q4,q5⟩:=HX.out w1 hbq1.out
  have HG:=hid hG
  have k0:(w1).cell? ⟨w.heap.size+2,0,none⟩=some (.slice none 0 0):=Qa (i:=0) HG.out
  have k1:(w1).cell? ⟨w.heap.size+2,1,none⟩=some (.slice none 0 0):=Qa (i:=1) HG.out
  have k2:(w1).cell? ⟨w.heap.size+2,2,none⟩=some (.slice none 0 0):=Qa (i:=2) HG.out
  have z0:=Qb (i:=0) HG.out
  have z1:=Qb (i:=1) HG.out
  have z2:=Qb (i:=2) HG.out
  clear hG
  go_wp2_with fail
  obtain⟨r0,r1,r2,hK,hS⟩:=box3 HG.out (.slice none 0 0) (.slice none 0 0) (.slice none 0 0)
  have hBW:=((hB1.setCell (p:=⟨w.heap.size+2,0,none⟩) (by simp) (.slice none 0 0)).setCell (p:=⟨w.heap.size+2,1,none⟩) (by simp) (.slice none 0 0)).setCell (p:=⟨w.heap.size+2,2,none⟩) (by simp) (.slice none 0 0)
  refine bodyPost_ret (v:=.tuple #[.agg #[.slice none 0 0,.slice none 0 0,.slice none 0 0],.int .i64 1]) (by simp[results,Tryz.results28,go_sem,r0,r1,r2]) rfl ⟨_,_,_,by rw[HE.out],?_,?_,hBW⟩
  ·rw[HTT.out];exact Qo _ _
  ·rw[HCC.out];exact SlA.nil
 cases hc2:caR b cb
 ·have HR1:=hid hc1
  have HR2:=hid hc2
  have HE:Hid (jnE a b ca cb=1):=by unfold Hid jnE;rw[hc1,hc2];rfl
  have HTT:Hid (jnT a b ca cb=.mk [] []):=by unfold Hid jnT;rw[hc1,hc2];rfl
  have HCC:Hid (jnC a b ca cb=[]):=by unfold Hid jnC;rw[hc1,hc2];rfl
  clear hc1 hc2
  have hB0:=(HX.out _ (Below.refl _ _)).1
  go_wp2_with fail
  refine (QX a ca _ _ _ _ (Qi hB0 hB0.size _ _ _ HA.out) (HCA.out _ hB0) hza hN1).mono ?_
  rw[HR1.out]
  rintro e w1 ⟨rfl,hb1⟩
  have hbq1:=hid (hb1.mono (show w.heap.size+3<=_ by simp))
  clear hb1 hB0
  obtain⟨hB1,hG,hsq,q0,q1,q2,q3,q4,q5⟩:=HX.out w1 hbq1.out
  have HG:=hid hG
  have k0:(w1).cell? ⟨w.heap.size+2,0,none⟩=some (.slice none 0 0):=Qa (i:=0) HG.out
  have k1:(w1).cell? ⟨w.heap.size+2,1,none⟩=some (.slice none 0 0):=Qa (i:=1) HG.out
  have k2:(w1).cell? ⟨w.heap.size+2,2,none⟩=some (.slice none 0 0):=Qa (i:=2) HG.out
  have z0:=Qb (i:=0) HG.out
  have z1:=Qb (i:=1) HG.out
  have z2:=Qb (i:=2) HG.out
  clear hG
  go_wp2_with fail
  refine (QX b cb _ _ _ w1 (Qi hB1 hB1.size _ _ _ HB.out) (HCB.out _ hB1) hzb hN2).mono ?_
  rw[HR2.out]
  rintro e w2 ⟨rfl,hb2⟩
  have hbq2:=hid (hbq1.out.trans (hb2.mono hsq))
  clear hb2 hB1 k0 k1 k2 z0 z1 z2 q0 q1 q2 q3 q4 q5 hsq HG
  obtain⟨hB1,hG,hsq,q0,q1,q2,q3,q4,q5⟩:=HX.out w2 hbq2.out
  have HG:=hid hG
  have k0:(w2).cell? ⟨w.heap.size+2,0,none⟩=some (.slice none 0 0):=Qa (i:=0) HG.out
  have k1:(w2).cell? ⟨w.heap.size+2,1,none⟩=some (.slice none 0 0):=Qa (i:=1) HG.out
  have k2:(w2).cell? ⟨w.heap.size+2,2,none⟩=some (.slice none 0 0):=Qa (i:=2) HG.out
  have z0:=Qb (i:=0) HG.out
  have z1:=Qb (i:=1) HG.out
  have z2:=Qb (i:=2) HG.out
  clear hG
  go_wp2_with fail
  obtain⟨r0,r1,r2,hK,hS⟩:=box3 HG.out (.slice none 0 0) (.slice none 0 0) (.slice none 0 0)
  have hBW:=((hB1.setCell (p:=⟨w.heap.size+2,0,none⟩) (by simp) (.slice none 0 0)).setCell (p:=⟨w.heap.size+2,1,none⟩) (by simp) (.slice none 0 0)).setCell (p:=⟨w.heap.size+2,2,none⟩) (by simp) (.slice none 0 0)
  refine bodyPost_ret (v:=.tuple #[.agg #[.slice none 0 0,.slice none 0 0,.slice none 0 0],.int .i64 1]) (by simp[results,Tryz.results28,go_sem,r0,r1,r2]) rfl ⟨_,_,_,by rw[HE.out],?_,?_,hBW⟩
  ·rw[HTT.out];exact Qo _ _
  ·rw[HCC.out];exact SlA.nil
 ·have HR1:=hid hc1
  have HR2:=hid hc2
  have HE:Hid (jnE a b ca cb=0):=by unfold Hid jnE;rw[hc1,hc2];rfl
  have HTT:Hid (jnT a b ca cb=joinT 6 ca cb a b):=by unfold Hid jnT;rw[hc1,hc2];rfl
  have HCC:Hid (jnC a b ca cb=ctxBy ca cb 0):=by unfold Hid jnC;rw[hc1,hc2];rfl
  have HOA:=hid (qW8 hc1)
  have HOB:=hid (qW8 hc2)
  have HDA:=hid (qX4 hc1)
  have HDB:=hid (qX4 hc2)
  have HPA:=hid (Km hc1)
  have HPB:=hid (Km hc2)
  clear hc1 hc2
  have hB0:=(HX.out _ (Below.refl _ _)).1
  go_wp2_with fail
  refine (QX a ca _ _ _ _ (Qi hB0 hB0.size _ _ _ HA.out) (HCA.out _ hB0) hza hN1).mono ?_
  rw[HR1.out]
  rintro e w1 ⟨rfl,hb1⟩
  have hbq1:=hid (hb1.mono (show w.heap.size+3<=_ by simp))
  clear hb1 hB0
  obtain⟨hB1,hG,hsq,q0,q1,q2,q3,q4,q5⟩:=HX.out w1 hbq1.out
  have HG:=hid hG
  have k0:(w1).cell? ⟨w.heap.size+2,0,none⟩=some (.slice none 0 0):=Qa (i:=0) HG.out
  have k1:(w1).cell? ⟨w.heap.size+2,1,none⟩=some (.slice none 0 0):=Qa (i:=1) HG.out
  have k2:(w1).cell? ⟨w.heap.size+2,2,none⟩=some (.slice none 0 0):=Qa (i:=2) HG.out
  have z0:=Qb (i:=0) HG.out
  have z1:=Qb (i:=1) HG.out
  have z2:=Qb (i:=2) HG.out
  clear hG
  go_wp2_with fail
  refine (QX b cb _ _ _ w1 (Qi hB1 hB1.size _ _ _ HB.out) (HCB.out _ hB1) hzb hN2).mono ?_
  rw[HR2.out]
  rintro e w2 ⟨rfl,hb2⟩
  have hbq2:=hid (hbq1.out.trans (hb2.mono hsq))
  clear hb2 hB1 k0 k1 k2 z0 z1 z2 q0 q1 q2 q3 q4 q5 hsq HG
  obtain⟨hB1,hG,hsq,q0,q1,q2,q3,q4,q5⟩:=HX.out w2 hbq2.out
  have HG:=hid hG
  have k0:(w2).cell? ⟨w.heap.size+2,0,none⟩=some (.slice none 0 0):=Qa (i:=0) HG.out
  have k1:(w2).cell? ⟨w.heap.size+2,1,none⟩=some (.slice none 0 0):=Qa (i:=1) HG.out
  have k2:(w2).cell? ⟨w.heap.size+2,2,none⟩=some (.slice none 0 0):=Qa (i:=2) HG.out
  have z0:=Qb (i:=0) HG.out
  have z1:=Qb (i:=1) HG.out
  have z2:=Qb (i:=2) HG.out
  clear hG
  go_wp2_with fail
  refine (qW7 ca cb 6 a b _ _ _ _ _ _ w2 (Qi hB1 hB1.size _ _ _ HA.out) (Qi hB1 hB1.size _ _ _ HB.out) (HCA.out _ hB1) (HCB.out _ hB1) HOA.out HOB.out HDA.out HDB.out (by omega) (by omega) HPA.out HPB.out hN1 hN2).mono ?_
  rintro e w5 ⟨ve,vk,vc,rfl,hrd5,hsl5,hb5⟩
  obtain⟨A7,n7,A8,n8,rfl,rfl⟩:=Qj hrd5
  have HS5:=hid hsl5
  obtain⟨A9,n9,hv9,_⟩:=hsl5
  subst hv9
  have HR5:=hid hrd5
  have hs25:=hb5.size
  have hs2:=hsq
  have hbq5:=hid (hbq2.out.trans (hb5.mono hsq))
  clear hrd5 hb5 hB1 k0 k1 k2 z0 z1 z2 q0 q1 q2 q3 q4 q5 hsq HG
  obtain⟨hB1,hG,hsq,q0,q1,q2,q3,q4,q5⟩:=HX.out w5 hbq5.out
  have HG:=hid hG
  have k0:(w5).cell? ⟨w.heap.size+2,0,none⟩=some (.slice none 0 0):=Qa (i:=0) HG.out
  have k1:(w5).cell? ⟨w.heap.size+2,1,none⟩=some (.slice none 0 0):=Qa (i:=1) HG.out
  have k2:(w5).cell? ⟨w.heap.size+2,2,none⟩=some (.slice none 0 0):=Qa (i:=2) HG.out
  have z0:=Qb (i:=0) HG.out
  have z1:=Qb (i:=1) HG.out
  have z2:=Qb (i:=2) HG.out
  clear hG
  go_wp2_with fail
  obtain⟨r0,r1,r2,hK,hS⟩:=box3 HG.out (.slice A7 (joinT 6 ca cb a b).es.length n7) (.slice A8 (joinT 6 ca cb a b).ks.length n8) (.slice A9 (ctxBy ca cb 0).length n9)
  have hBW:Below w.heap.size w (((w5.setCell ⟨w.heap.size+2,0,none⟩ (.slice A7 (joinT 6 ca cb a b).es.length n7)).setCell ⟨w.heap.size+2,1,none⟩ (.slice A8 (joinT 6 ca cb a b).ks.length n8)).setCell ⟨w.heap.size+2,2,none⟩ (.slice A9 (ctxBy ca cb 0).length n9)):=((hB1.setCell (by simp) _).setCell (by simp) _).setCell (by simp) _
  clear k0 k1 k2 z0 z1 z2
  generalize (((w5.setCell ⟨w.heap.size+2,0,none⟩ (.slice A7 (joinT 6 ca cb a b).es.length n7)).setCell ⟨w.heap.size+2,1,none⟩ (.slice A8 (joinT 6 ca cb a b).ks.length n8)).setCell ⟨w.heap.size+2,2,none⟩ (.slice A9 (ctxBy ca cb 0).length n9))=W at *
  refine bodyPost_ret (v:=.tuple #[.agg #[.slice A7 (joinT 6 ca cb a b).es.length n7,.slice A8 (joinT 6 ca cb a b).ks.length n8,.slice A9 (ctxBy ca cb 0).length n9],.int .i64 0]) (by simp[results,Tryz.results28,go_sem,r0,r1,r2]) rfl ⟨_,_,_,by rw[HE.out],?_,?_,hBW⟩
  ·rw[HTT.out]
   exact Qp (fun b hb=>hK b (by have:=hb.1;omega)) (fun b hb=>⟨by have:=hb.1;omega,by have:=hb.2;omega⟩) _ _ _ HR5.out
  ·rw[HCC.out]
   exact HS5.out.up (fun b hb=>hK b (by have:=hb.1;omega)) (fun b hb=>⟨by have:=hb.1;omega,by have:=hb.2;omega⟩) (fun _ _ _ h=>h)
/-! contexts by their dots -/
theorem Yu (a b:List Sp)(how:Int){i:Nat}(hi:i<4):partL (ctxBy a b how) i=byL (partL a i) (partL b i) how:=by
 rw[Xn,Yz,if_pos hi]
theorem Ye {c:List Sp}(h:Qm c=true){i:Nat}(hi:i<4):∀ r∈partL c i,runOk r:=Kh _ none (Qx h hi)
theorem Y7 {a b:List Sp}(ha:Qm a=true)(hb:Qm b=true)(how:Int):Qm (ctxBy a b how)=true:=by
 rw[Xn]
 exact Kf fun i hi=>(Yq how (Ye ha hi) (Ye hb hi)).1
theorem qX5 {a b:List Sp}(ha:Qm a=true)(hb:Qm b=true)(how:Int){d:Dt}(hd:d.right=true):hasC (ctxBy a b how) d=inn how (hasC a d) (hasC b d):=by
 have h1:=(V2 hd).1
 obtain⟨i,hi⟩:∃ i:Nat,(i:Int)=d.dc:=⟨d.dc.toNat,by omega⟩
 have h4:i<4:=by omega
 unfold hasC
 rw[hd,←hi,Yu a b how h4,(Yq how (Ye ha h4) (Ye hb h4)).2]
 simp
theorem Y8 {c:List Sp}{d:Dt}(h:hasC c d=true):d.right=true:=by unfold hasC at h;rw[Bool.and_eq_true]at h;exact h.1
theorem QK {a b:List Sp}(ha:Qm a=true)(hb:Qm b=true)(d:Dt):hasC (ctxBy a b 0) d=(hasC a d||hasC b d):=by
 cases hd:d.right
 ·unfold hasC;simp[hd]
 ·rw[qX5 ha hb 0 hd];rfl
theorem qVh {a b:List Sp}(ha:Qm a=true)(hb:Qm b=true)(d:Dt):hasC (ctxBy a b 2) d=(hasC a d&&!hasC b d):=by
 cases hd:d.right
 ·unfold hasC;simp[hd]
 ·rw[qX5 ha hb 2 hd];rfl
theorem qW9 {l:List (Int×Int)}(h:∀ r∈l,runOk r){n:Int}(hn:hasL l n=true):1<=n/\n<=1099511627776:=by
 unfold hasL at hn
 obtain⟨r,hr,h1⟩:=List.any_eq_true.1 hn
 have:=h r hr
 unfold runOk at this
 unfold inR at h1
 simp at h1
 omega
theorem V7 {i:Nat}(hi:i<4){n:Int}(h:1<=n/\n<=1099511627776):(⟨i,n⟩:Dt).right=true:=by
 unfold Dt.right;simp;omega
theorem qX6 {a b:List Sp}(ha:Qm a=true)(hb:Qm b=true)(h:∀ d,hasC a d=hasC b d):a=b:=by
 rw[←Vs ha,←Vs hb]
 refine qJg fun i hi=>YN _ _ none none (Qx ha hi) (Qx hb hi) fun n=>?_
 by_cases hn:1<=n/\n<=1099511627776
 ·have:=h ⟨i,n⟩
  unfold hasC at this
  rw[V7 hi hn]at this
  simpa using this
 ·have e1:hasL (partL a i) n=false:=by
   cases hc:hasL (partL a i) n
   ·rfl
   ·exact absurd (qW9 (Ye ha hi) hc) hn
  have e2:hasL (partL b i) n=false:=by
   cases hc:hasL (partL b i) n
   ·rfl
   ·exact absurd (qW9 (Ye hb hi) hc) hn
  rw[e1,e2]
theorem Ko:Qm []=true:=by kernel_rfl
theorem XW (d:Dt):hasC [] d=false:=by unfold hasC partL hasL;simp
theorem zYm {c:List Sp}(hc:Qm c=true):c=[]↔∀ d,hasC c d=false:=by
 constructor
 ·rintro rfl;exact XW
 ·intro h;exact qX6 hc Ko fun d=>by rw[h,XW]
theorem qJq {a b:List Sp}(ha:Qm a=true)(hb:Qm b=true):cLeq a b=true↔∀ d,hasC a d=true->hasC b d=true:=by
 unfold cLeq
 rw[ha,hb,Bool.true_and,Bool.true_and,decide_eq_true_eq,List.length_eq_zero_iff,zYm (Y7 ha hb 2)]
 refine forall_congr' fun d=>?_
 rw[qVh ha hb]
 cases hasC a d<;>cases hasC b d<;>simp
/-! right trees by their leaves -/
theorem qUa:∀ (es:List En) (p:Option Dt),(es.Pairwise fun a b=>a.dot.lt b.dot=true)->(∀ e∈es,okP p e.dot=true)->(∀ e∈es,e.right=true)->entsB p es=true
 |[],_,_,_,_=>by unfold entsB;rfl
 |e :: es,p,h,h1,h2=>by
  obtain⟨h3,h4⟩:=List.pairwise_cons.1 h
  rw[ZS,h2 e (by simp),h1 e (by simp),qUa es (some e.dot) h4 (fun a ha=>h3 a ha) fun a ha=>h2 a (by simp[ha])];rfl
theorem qUb (d:Int):∀ (ks:List Kd) (p:Option ByteArray),(ks.Pairwise fun a b=>ltS a.1 b.1=true)->(∀ x∈ks,okK p x.1=true)->(∀ k t,(k,t)∈ks->keyB k=true/\t.empty=false/\t.right (d-1)=true)->Tr.rightL p ks d=true
 |[],p,_,_,_=>by cases p<;>rw[Tr.rightL]
 |(k,t) :: ks,p,h,h1,h2=>by
  obtain⟨h3,h4⟩:=List.pairwise_cons.1 h
  obtain⟨g1,g2,g3⟩:=h2 k t (by simp)
  rw[Q6,g1,g2,g3,h1 (k,t) (by simp),qUb d ks (some k) h4 (fun a ha=>h3 a ha) fun k' t' hm=>h2 k' t' (by simp[hm])];rfl
def LfR (n:Int)(x:Lf):Prop:=(x.1.length:Int)+1<=n/\(∀ k∈x.1,keyB k=true)/\x.2.right=true
theorem Y9:∀ (t:Tr) (n:Int),t.right n=true->∀ x∈t.lvs [],LfR n x:=by
 intro t
 induction t using Tr.ind with
 |h es ks ih=>
 intro n h x hx
 rw[Tr.right,Bool.and_eq_true,Bool.and_eq_true]at h
 have hn:=of_decide_eq_true h.1.1
 obtain⟨p,e⟩:=x
 match p with
 |[]=>
  have he:=Zs.1 hx
  refine⟨by simpa using hn,by simp,?_⟩
  have:∀ (es:List En) (p:Option Dt),entsB p es=true->∀ e∈es,e.right=true:=by
   intro es
   induction es with
   |nil=>intro _ _ _ h;cases h
   |cons y es ih=>
    intro p h e he
    rw[ZS,Bool.and_eq_true,Bool.and_eq_true]at h
    rcases List.mem_cons.1 he with rfl|he
    ·exact h.1.1
    ·exact ih _ h.2 e he
  exact this es none h.1.2 e he
 |k :: qs=>
  obtain⟨t,hm,hx⟩:=Qt.1 hx
  have hk:∀ (ks:List Kd) (p:Option ByteArray),Tr.rightL p ks n=true->∀ k t,(k,t)∈ks->keyB k=true/\t.right (n-1)=true:=by
   intro ks
   induction ks with
   |nil=>intro _ _ _ _ h;cases h
   |cons y ks ih=>
    obtain⟨y1,y2⟩:=y
    intro p h k t he
    rw[Q6,Bool.and_eq_true,Bool.and_eq_true,Bool.and_eq_true,Bool.and_eq_true]at h
    obtain⟨⟨⟨⟨a1,a2⟩,a3⟩,a4⟩,a5⟩:=h
    rcases List.mem_cons.1 he with he|he
    ·cases he;exact⟨a1,a4⟩
    ·exact ih _ a5 k t he
  obtain⟨h1,h2⟩:=hk ks none h.2 k t hm
  obtain⟨g1,g2,g3⟩:=ih k t hm _ h2 _ hx
  exact⟨by simp at g1 ⊢;omega,fun q hq=>by
   rcases List.mem_cons.1 hq with rfl|hq
   ·exact h1
   ·exact g2 q hq,g3⟩
theorem V8:∀ (t:Tr) (n:Int),1<=n->t.Ord->(∀ x∈t.lvs [],LfR n x)->t.right n=true:=by
 intro t
 induction t using Tr.ind with
 |h es ks ih=>
 intro n hn ho hl
 obtain⟨h1,h2,h3⟩:=QS.1 ho
 rw[Tr.right,Bool.and_eq_true,Bool.and_eq_true]
 refine⟨⟨by simpa using hn,qUa es none h1 (fun _ _=>rfl) fun e he=>(hl ([],e) (Zs.2 he)).2.2⟩,qUb n ks none h2 (fun _ _=>rfl) fun k t hm=>?_⟩
 obtain⟨g1,g2,g3⟩:=h3 k t hm
 have hsub:∀ x∈t.lvs [],LfR (n-1) x/\keyB k=true:=by
  rintro⟨qs,e⟩ hx
  obtain⟨f1,f2,f3⟩:=hl (k :: qs,e) (Qt.2 ⟨t,hm,hx⟩)
  exact⟨⟨by simp at f1 ⊢;omega,fun q hq=>f2 q (by simp[hq]),f3⟩,f2 k (by simp)⟩
 obtain⟨x,hx⟩:=XD t g3 g2
 have hd:=(hsub x hx).1.1
 exact⟨(hsub x hx).2,g2,ih k t hm (n-1) (by omega) g3 fun x hx=>(hsub x hx).1⟩
theorem Z5 {t:Tr}(h:t.Ord):t.right 5=true↔∀ x∈t.lvs [],LfR 5 x:=⟨Y9 t 5,V8 t 5 (by omega) h⟩
/-! the dots of a tree -/
theorem qUc {ks:List Kd}{d:Dt}:d∈Tr.dotsL ks↔∃ k t,(k,t)∈ks/\d∈t.dots:=by
 induction ks with
 |nil=>simp[Tr.dotsL]
 |cons y ks ih=>
  obtain⟨k,t⟩:=y
  rw[Tr.dotsL,List.mem_append,ih]
  constructor
  ·rintro (h|⟨k',t',hm,h⟩)
   ·exact⟨k,t,by simp,h⟩
   ·exact⟨k',t',by simp[hm],h⟩
  ·rintro⟨k',t',hm,h⟩
   rcases List.mem_cons.1 hm with e|hm
   ·cases e;exact .inl h
   ·exact .inr ⟨k',t',hm,h⟩
theorem Yf (t:Tr):∀ d,d∈t.dots↔∃ p e,((p,e):Lf)∈t.lvs []/\e.dot=d:=by
 induction t using Tr.ind with
 |h es ks ih=>
 intro d
 rw[Tr.dots,List.mem_append,List.mem_map,qUc]
 constructor
 ·rintro (⟨e,he,rfl⟩|⟨k,t,hm,hd⟩)
  ·exact⟨[],e,Zs.2 he,rfl⟩
  ·obtain⟨p,e,hp,rfl⟩:=(ih k t hm d).1 hd
   exact⟨k :: p,e,Qt.2 ⟨t,hm,hp⟩,rfl⟩
 ·rintro⟨p,e,hx,rfl⟩
  match p with
  |[]=>exact .inl ⟨e,Zs.1 hx,rfl⟩
  |k :: qs=>
   obtain⟨t,hm,hx⟩:=Qt.1 hx
   exact .inr ⟨k,t,hm,(ih k t hm _).2 ⟨qs,e,hx,rfl⟩⟩
theorem qZp {e:En}(h:e.right=true):e.dot.right=true:=by
 unfold En.right at h;simp at h;exact h.1
theorem QL {t:Tr}(h:t.right 5=true):∀ d∈t.dots,d.right=true:=fun d hd=>by
 obtain⟨p,e,hx,rfl⟩:=(Yf t d).1 hd
 exact qZp (Y9 t 5 h _ hx).2.2
theorem YR {t:Tr}(h:t.right 5=true){d:Dt}:hasC (ctxOf t.dots) d=true↔d∈t.dots:=by
 constructor
 ·intro hc;rw[ZV (QL h) (Y8 hc)]at hc;simpa using hc
 ·intro hm;rw[ZV (QL h) (QL h d hm)];simpa using hm
/-! what is known, right -/
structure CaOk (t:Tr)(c:List Sp):Prop where
 ord:t.Ord
 leaf:∀ x∈t.lvs [],LfR 5 x
 ap:Qm c=true
 has:∀ x∈t.lvs [],hasC c x.2.dot=true
theorem Yj {t:Tr}{c:List Sp}:caR t c=true↔CaOk t c:=by
 unfold caR
 rw[Bool.and_eq_true]
 constructor
 ·rintro⟨h1,h2⟩
  have hc:Qm c=true:=by unfold cLeq at h2;simp only[Bool.and_eq_true]at h2;exact h2.2.1
  refine⟨Zb t 5 h1,Y9 t 5 h1,hc,fun x hx=>?_⟩
  have ha:=Qr (QL h1)
  exact (qJq ha hc).1 h2 _ ((YR h1).2 ((Yf t _).2 ⟨x.1,x.2,hx,rfl⟩))
 ·rintro⟨h1,h2,h3,h4⟩
  have hr:=(Z5 h1).2 h2
  refine⟨hr,(qJq (Qr (QL hr)) h3).2 fun d hd=>?_⟩
  obtain⟨p,e,hx,rfl⟩:=(Yf t d).1 ((YR hr).1 hd)
  exact h4 _ hx
theorem CaOk.dep {t:Tr}{c:List Sp}(h:CaOk t c):t.dep<=6:=qX4 (Yj.2 h)
theorem CaOk.ext {s t:Tr}{c d:List Sp}(h:CaOk s c)(k:CaOk t d)(hl:∀ p e,((p,e):Lf)∈s.lvs []↔((p,e):Lf)∈t.lvs [])(hd:∀ x,hasC c x=hasC d x):s=t/\c=d:=
 ⟨qWi s t h.ord k.ord fun ⟨p,e⟩=>hl p e,qX6 h.ap k.ap hd⟩
abbrev jT (a b:Tr)(ca cb:List Sp):Tr:=joinT 6 ca cb a b
abbrev jC (ca cb:List Sp):List Sp:=ctxBy ca cb 0
theorem qUd {a b:Tr}{ca cb:List Sp}(ha:CaOk a ca)(hb:CaOk b cb)(p:List ByteArray)(e:En):((p,e):Lf)∈(jT a b ca cb).lvs []↔EntJ ca cb (fun x=>((p,x):Lf)∈a.lvs []) (fun y=>((p,y):Lf)∈b.lvs []) e:=
 (Jo ca cb 6 a b ha.ord hb.ord ha.dep hb.dep).2 p e
theorem zYn (x y:En):grtE x y=x∨grtE x y=y:=by unfold grtE;split<;>simp
theorem EntJ.leaf {ca cb:List Sp}{a b:En->Prop}{e:En}(h:EntJ ca cb a b e):a e∨b e:=by
 rcases h with⟨x,y,hx,hy,_,rfl⟩|⟨hx,_,_⟩|⟨hx,_,_⟩
 ·rcases zYn x y with h|h<;>rw[h]
  ·exact .inl hx
  ·exact .inr hy
 ·exact .inl hx
 ·exact .inr hx
theorem jT_ok {a b:Tr}{ca cb:List Sp}(ha:CaOk a ca)(hb:CaOk b cb):CaOk (jT a b ca cb) (jC ca cb):=by
 refine⟨(Jo ca cb 6 a b ha.ord hb.ord ha.dep hb.dep).1,fun x hx=>?_,Y7 ha.ap hb.ap 0,fun x hx=>?_⟩
 ·obtain⟨p,e⟩:=x
  rcases ((qUd ha hb p e).1 hx).leaf with h|h
  ·exact ha.leaf _ h
  ·exact hb.leaf _ h
 ·obtain⟨p,e⟩:=x
  rw[QK ha.ap hb.ap]
  rcases ((qUd ha hb p e).1 hx).leaf with h|h
  ·rw[ha.has _ h];rfl
  ·rw[hb.has _ h];simp
theorem jn_ok {a b:Tr}{ca cb:List Sp}(ha:CaOk a ca)(hb:CaOk b cb):jnE a b ca cb=0/\jnT a b ca cb=jT a b ca cb/\jnC a b ca cb=jC ca cb:=by
 unfold jnE jnT jnC
 rw[Yj.2 ha,Yj.2 hb]
 exact⟨rfl,rfl,rfl⟩
theorem qUe {y x:En}:gtE y x=true↔x.v<y.v∨(y.v=x.v/\ltS x.s y.s=true):=by unfold gtE;simp
theorem zXw {y x:En}:gtE y x=false↔y.v<x.v∨(y.v=x.v/\ltS x.s y.s=false):=by
 rw[←Bool.not_eq_true,qUe]
 cases ltS x.s y.s<;>simp<;>omega
theorem qUf {x y z:En}(h:gtE x y=true)(k:gtE y z=true):gtE x z=true:=by
 rw[qUe]at *
 rcases h with h|⟨h,h'⟩<;>rcases k with k|⟨k,k'⟩
 ·exact .inl (by omega)
 ·exact .inl (by omega)
 ·exact .inl (by omega)
 ·exact .inr ⟨by omega,QD k' h'⟩
theorem qJr (x:En):gtE x x=false:=by rw[zXw];exact .inr ⟨rfl,Qw _⟩
theorem qUg {x y:En}(hd:x.dot=y.dot)(h:gtE x y=false)(k:gtE y x=false):x=y:=by
 rw[zXw]at *
 rcases h with h|⟨h,h'⟩<;>rcases k with k|⟨k,k'⟩
 ·omega
 ·omega
 ·omega
 ·have:=ZW h' k'
  obtain⟨a,b,c,d⟩:=x
  obtain⟨a',b',c',d'⟩:=y
  simp only[En.dot,Dt.mk.injEq]at hd
  simp only at this h
  obtain⟨rfl,rfl⟩:=hd
  subst this;subst h;rfl
theorem zZq (x:En):grtE x x=x:=by rw[Zx,qJr];rfl
theorem zZr {x y:En}(hd:x.dot=y.dot):grtE x y=grtE y x:=by
 rw[Zx,Zx]
 cases h1:gtE y x<;>cases h2:gtE x y<;>simp
 ·exact qUg hd h2 h1
 ·have:=qUf h1 h2;rw[qJr]at this;cases this
theorem qUh {x y z:En}(_:x.dot=y.dot)(h2:y.dot=z.dot):grtE (grtE x y) z=grtE x (grtE y z):=by
 rw[Zx x y,Zx y z]
 cases a:gtE y x<;>cases b:gtE z y<;>simp only[if_true,if_false,Bool.false_eq_true]
 ·rw[Zx x z,Zx x y,a]
  cases c:gtE z x
  ·simp
  ·simp
   -- z > x, not z > y, not y > x : then y ≥ z > x, so y > x
   exfalso
   cases d:gtE y z
   ·have:=qUg h2 d b;subst this;rw[a]at c;cases c
   ·have:=qUf d c;rw[a]at this;cases this
 ·rw[Zx y z,b,Zx x y,a];rfl
 ·rw[Zx y z,b,Zx x z,qUf b a];rfl
def stE (t:Tr)(p:List ByteArray)(d:Dt):Option En:=((t.lvs []).find? fun x=>decide (x.1=p)&&decide (x.2.dot=d)).map (·.2)
theorem QC {t:Tr}(h:t.Ord){p:List ByteArray}{d:Dt}{e:En}:stE t p d=some e↔((p,e):Lf)∈t.lvs []/\e.dot=d:=by
 unfold stE
 constructor
 ·intro hs
  obtain⟨⟨q,f⟩,h1,h2⟩:=Option.map_eq_some_iff.1 hs
  have h3:=List.find?_some h1
  have h4:=List.mem_of_find?_eq_some h1
  simp at h2 h3
  obtain⟨rfl,h3⟩:=h3
  subst h2
  exact⟨h4,h3⟩
 ·rintro⟨hm,hd⟩
  cases hf:(t.lvs []).find? fun x=>decide (x.1=p)&&decide (x.2.dot=d) with
  |none=>
   have:=List.find?_eq_none.1 hf _ hm
   simp[hd]at this
  |some y=>
   have h3:=List.find?_some hf
   have h4:=List.mem_of_find?_eq_some hf
   simp at h3
   have:=(XG t h).one y h4 (p,e) hm h3.1 (h3.2.trans hd.symm)
   subst this;rfl
theorem JL {t:Tr}(h:t.Ord){p:List ByteArray}{d:Dt}:stE t p d=none↔∀ e,((p,e):Lf)∈t.lvs []->e.dot≠d:=by
 constructor
 ·intro hs e hm hd
  rw[(QC h).2 ⟨hm,hd⟩]at hs;cases hs
 ·intro hn
  cases hs:stE t p d with
  |none=>rfl
  |some e=>exact absurd ((QC h).1 hs).2 (hn e ((QC h).1 hs).1)
def jnO (x:Option En)(k:Bool)(y:Option En)(l:Bool):Option En:=
 match x,y with
 |some x,some y=>some (grtE x y)
 |some x,none=>if l then none else some x
 |none,some y=>if k then none else some y
 |none,none=>none
theorem zYo {t s:Tr}{ca cb:List Sp}(ht:t.Ord)(hs:s.Ord)(hca:Qm ca=true)(hcb:Qm cb=true)(p:List ByteArray)(d:Dt)(e:En) :
  (EntJ ca cb (fun x=>((p,x):Lf)∈t.lvs []) (fun y=>((p,y):Lf)∈s.lvs []) e/\e.dot=d)↔jnO (stE t p d) (hasC ca d) (stE s p d) (hasC cb d)=some e:=by
 unfold EntJ
 simp only[XU hca,XU hcb]
 cases h1:stE t p d with
 |none=>
  have n1:=(JL ht).1 h1
  cases h2:stE s p d with
  |none=>
   have n2:=(JL hs).1 h2
   constructor
   ·rintro⟨⟨x,y,hx,hy,hd,rfl⟩|⟨hx,_⟩|⟨hx,_⟩,hd'⟩
    ·rw[Yc hd]at hd';exact absurd hd' (n1 x hx)
    ·exact absurd hd' (n1 e hx)
    ·exact absurd hd' (n2 e hx)
   ·intro h;cases h
  |some y=>
   obtain⟨hy,hyd⟩:=(QC hs).1 h2
   constructor
   ·rintro⟨⟨x,y,hx,hy,hd,rfl⟩|⟨hx,_⟩|⟨hx,hn,hh⟩,hd'⟩
    ·rw[Yc hd]at hd';exact absurd hd' (n1 x hx)
    ·exact absurd hd' (n1 e hx)
    ·have:=(QC hs).2 ⟨hx,hd'⟩
     rw[h2]at this
     cases this
     rw[hd']at hh
     simp[jnO,hh]
   ·intro h
    unfold jnO at h
    simp only at h
    split at h
    ·cases h
    ·rename_i hh
     cases h
     exact⟨.inr (.inr ⟨hy,fun x hx hxd=>n1 x hx (hxd.trans hyd),by rw[hyd];simpa using hh⟩),hyd⟩
 |some x=>
  obtain⟨hx,hxd⟩:=(QC ht).1 h1
  cases h2:stE s p d with
  |none=>
   have n2:=(JL hs).1 h2
   constructor
   ·rintro⟨⟨x',y,hx',hy,hd,rfl⟩|⟨hx',hn,hh⟩|⟨hx',hn,hh⟩,hd'⟩
    ·rw[Yc hd]at hd';exact absurd (hd.symm.trans hd') (n2 y hy)
    ·have:=(QC ht).2 ⟨hx',hd'⟩
     rw[h1]at this
     cases this
     rw[hd']at hh
     simp[jnO,hh]
    ·exact absurd hd' (n2 e hx')
   ·intro h
    unfold jnO at h
    simp only at h
    split at h
    ·cases h
    ·rename_i hh
     cases h
     exact⟨.inr (.inl ⟨hx,fun y hy hyd=>n2 y hy (hyd.trans hxd),by rw[hxd];simpa using hh⟩),hxd⟩
  |some y=>
   obtain⟨hy,hyd⟩:=(QC hs).1 h2
   constructor
   ·rintro⟨⟨x',y',hx',hy',hd,rfl⟩|⟨hx',hn,hh⟩|⟨hx',hn,hh⟩,hd'⟩
    ·rw[Yc hd]at hd'
     have e1:=(QC ht).2 ⟨hx',hd'⟩
     have e2:=(QC hs).2 ⟨hy',hd.symm.trans hd'⟩
     rw[h1]at e1;rw[h2]at e2
     cases e1;cases e2
     rfl
    ·exact absurd (hyd.trans hd'.symm) (hn y hy)
    ·exact absurd (hxd.trans hd'.symm) (hn x hx)
   ·intro h
    unfold jnO at h
    cases h
    exact⟨.inl ⟨x,y,hx,hy,hxd.trans hyd.symm,rfl⟩,(Yc (hxd.trans hyd.symm)).trans hxd⟩
theorem Yg {a b:Tr}{ca cb:List Sp}(ha:CaOk a ca)(hb:CaOk b cb)(p:List ByteArray)(d:Dt):stE (jT a b ca cb) p d=jnO (stE a p d) (hasC ca d) (stE b p d) (hasC cb d):=by
 refine Option.ext fun e=>?_
 rw[QC (jT_ok ha hb).ord,←zYo ha.ord hb.ord ha.ap hb.ap,qUd ha hb]
theorem Zd {a:Tr}{ca:List Sp}(ha:CaOk a ca){p:List ByteArray}{d:Dt}{e:En}(h:stE a p d=some e):hasC ca d=true/\e.dot=d:=by
 obtain⟨h1,h2⟩:=(QC ha.ord).1 h
 exact⟨by rw[←h2];exact ha.has _ h1,h2⟩
theorem CaOk.ext2 {s t:Tr}{c d:List Sp}(h:CaOk s c)(k:CaOk t d)(hl:∀ p x,stE s p x=stE t p x)(hd:∀ x,hasC c x=hasC d x):s=t/\c=d:=by
 refine h.ext k (fun p e=>?_) hd
 have h1:=@QC s h.ord p e.dot e
 have h2:=@QC t k.ord p e.dot e
 rw[hl]at h1
 simp only[and_true]at h1 h2
 exact h1.symm.trans h2
theorem qZq {a b:Tr}{ca cb:List Sp}(ha:CaOk a ca)(hb:CaOk b cb):jT a b ca cb=jT b a cb ca/\jC ca cb=jC cb ca:=by
 refine (jT_ok ha hb).ext2 (jT_ok hb ha) (fun p d=>?_) fun d=>?_
 ·rw[Yg ha hb,Yg hb ha]
  cases h:stE a p d<;>cases k:stE b p d<;>simp[jnO]
  exact zZr ((Zd ha h).2.trans (Zd hb k).2.symm)
 ·rw[QK ha.ap hb.ap,QK hb.ap ha.ap,Bool.or_comm]
theorem VD {a b c:Tr}{ca cb cc:List Sp}(ha:CaOk a ca)(hb:CaOk b cb)(hc:CaOk c cc):jT (jT a b ca cb) c (jC ca cb) cc=jT a (jT b c cb cc) ca (jC cb cc)/\jC (jC ca cb) cc=jC ca (jC cb cc):=by
 have hab:=jT_ok ha hb
 have hbc:=jT_ok hb hc
 refine (jT_ok hab hc).ext2 (jT_ok ha hbc) (fun p d=>?_) fun d=>?_
 ·rw[Yg hab hc,Yg ha hbc,Yg ha hb,Yg hb hc,QK ha.ap hb.ap,QK hb.ap hc.ap]
  cases h1:stE a p d with
  |none=>
   cases h2:stE b p d with
   |none=>cases h3:stE c p d<;>cases hasC ca d<;>cases hasC cb d<;>cases hasC cc d<;>rfl
   |some y=>
    have g2:=(Zd hb h2).1
    cases h3:stE c p d with
    |none=>rw[g2];cases hasC ca d<;>cases hasC cc d<;>rfl
    |some z=>rw[g2,(Zd hc h3).1];cases hasC ca d<;>rfl
  |some x=>
   have g1:=(Zd ha h1).1
   cases h2:stE b p d with
   |none=>
    cases h3:stE c p d with
    |none=>rw[g1];cases hasC cb d<;>cases hasC cc d<;>rfl
    |some z=>rw[g1,(Zd hc h3).1];cases hasC cb d<;>rfl
   |some y=>
    have g2:=(Zd hb h2).1
    cases h3:stE c p d with
    |none=>rw[g1,g2];cases hasC cc d<;>rfl
    |some z=>
     rw[g1,g2,(Zd hc h3).1]
     simp only[jnO]
     rw[qUh ((Zd ha h1).2.trans (Zd hb h2).2.symm) ((Zd hb h2).2.trans (Zd hc h3).2.symm)]
 ·rw[QK hab.ap hc.ap,QK ha.ap hb.ap,QK ha.ap hbc.ap,QK hb.ap hc.ap,Bool.or_assoc]
theorem CaOk.nil:CaOk (.mk [] []) []:=⟨qXq,fun x h=>by simp[Tr.lvs,Tr.lvsL]at h,Ko,fun x h=>by simp[Tr.lvs,Tr.lvsL]at h⟩
theorem qJs {a:Tr}{ca:List Sp}(ha:CaOk a ca):jT (.mk [] []) a [] ca=a/\jC [] ca=ca:=by
 refine (jT_ok CaOk.nil ha).ext2 ha (fun p d=>?_) fun d=>?_
 ·rw[Yg CaOk.nil ha,XW]
  cases h:stE a p d<;>simp[jnO,stE,Tr.lvs,Tr.lvsL]
 ·rw[QK Ko ha.ap,XW,Bool.false_or]
theorem ZF {t:Tr}{d:Dt}(h:chkT t d=true):t.right 5=true/\d.right=true/\d∉t.dots:=by
 unfold chkT at h
 rw[Bool.and_eq_true,Bool.and_eq_true]at h
 refine⟨h.1.1,h.1.2,fun hm=>?_⟩
 rw[(YR h.1.1).2 hm]at h
 simp at h
theorem zZs {t:Tr}{d x:Dt}(h:t.right 5=true)(hd:d.right=true):hasC (seenC t d) x=true↔x∈t.dots∨x=d:=by
 have hr:∀ y∈[d],y.right=true:=fun y hy=>by simp at hy;subst hy;exact hd
 unfold seenC
 rw[QK (Qr (QL h)) (Qr hr),Bool.or_eq_true,YR h]
 refine or_congr Iff.rfl ?_
 constructor
 ·intro hc;rw[ZV hr (Y8 hc)]at hc;simpa using hc
 ·rintro rfl;rw[ZV hr hd];simp
theorem qVi {t:Tr}{d:Dt}(h:t.right 5=true)(hd:d.right=true):Qm (seenC t d)=true:=
 Y7 (Qr (QL h)) (Qr fun y hy=>by simp at hy;subst hy;exact hd) 0
theorem zXx {c:List Sp}(hc:Qm c=true):CaOk (.mk [] []) c:=⟨qXq,fun x h=>by simp[Tr.lvs,Tr.lvsL]at h,hc,fun x h=>by simp[Tr.lvs,Tr.lvsL]at h⟩
theorem zYp (p:List ByteArray)(d:Dt):stE (.mk [] []) p d=none:=by simp[stE,Tr.lvs,Tr.lvsL]
theorem qUi {t:Tr}{d x:Dt}(h:t.right 5=true)(hd:d.right=true):hasC (seenC t d) x=(decide (x∈t.dots)||decide (x=d)):=by
 rw[Bool.eq_iff_iff,zZs h hd];simp
def kz:List Kd->ByteArray->Nat
 |[],_=>0
 |(k,t) :: ks,q=>if k=q then 1+t.sz else kz ks q
theorem zXy (ks:List Kd)(q:ByteArray)(es:List En):(kidT (.mk es ks) q).sz<=kz ks q/\((∃ t,(q,t)∈ks)->(kidT (.mk es ks) q).sz+1<=kz ks q):=by
 unfold kidT
 simp only[Tr.ks]
 induction ks with
 |nil=>simp[kz,Tr.sz,Tr.szL]
 |cons y ks ih=>
  obtain⟨k,t⟩:=y
  rw[kz,List.find?_cons]
  by_cases h:k=q
  ·subst h;simp;omega
  ·simp only[h,decide_false,if_false]
   refine⟨ih.1,fun ⟨t',hm⟩=>ih.2 ⟨t',?_⟩⟩
   rcases List.mem_cons.1 hm with e|hm
   ·cases e;exact absurd rfl h
   ·exact hm
theorem qUj (c:Nat)(q:ByteArray):∀ (K:List ByteArray),K.Nodup->(K.map fun k=>if q=k then c else 0).sum<=c
 |[],_=>by simp
 |k :: K,h=>by
  obtain⟨h1,h2⟩:=List.nodup_cons.1 h
  rw[List.map_cons,List.sum_cons]
  by_cases e:q=k
  ·have:(K.map fun k=>if q=k then c else 0).sum=0:=by
    have hz:(K.map fun k=>if q=k then c else 0)=K.map fun _=>0:=List.map_congr_left fun x hx=>by
     rw[if_neg];rintro rfl;exact h1 (e▸hx)
    rw[hz];clear hz h1 h2 h
    induction K with
    |nil=>rfl
    |cons _ _ ih=>simp[ih]
   rw[if_pos e,this];omega
  ·rw[if_neg e];have:=qUj c q K h2;omega
theorem zXz {α:Type}(f g:α->Nat):∀ (K:List α),(∀ k∈K,f k<=g k)->(K.map f).sum<=(K.map g).sum
 |[],_=>by simp
 |k :: K,h=>by
  have h1:=h k (by simp)
  have h2:=zXz f g K fun k hk=>h k (by simp[hk])
  simp only[List.map_cons,List.sum_cons];omega
theorem qX7 {α:Type}(f g:α->Nat):∀ (K:List α),(K.map fun k=>f k+g k).sum=(K.map f).sum+(K.map g).sum
 |[]=>by simp
 |k :: K=>by
  have h2:=qX7 f g K
  simp only[List.map_cons,List.sum_cons]at h2 ⊢;omega
theorem qUk:∀ (ks:List Kd) (K:List ByteArray),K.Nodup->(K.map (kz ks)).sum<=Tr.szL ks
 |[],K,_=>by
  have:K.map (kz [])=K.map fun _=>0:=List.map_congr_left fun _ _=>rfl
  rw[this]
  have:∀ K:List ByteArray,(K.map fun _=>0).sum=0:=fun K=>by induction K with|nil=>rfl|cons _ _ ih=>simp[ih]
  rw[this];exact Nat.zero_le _
 |(k,t) :: ks,K,h=>by
  have h1:=qUk ks K h
  have h2:=qUj (1+t.sz) k K h
  have h3:=zXz (kz ((k,t) :: ks)) (fun q=>(if k=q then 1+t.sz else 0)+kz ks q) K fun q _=>by rw[kz];split<;>omega
  rw[qX7]at h3
  rw[Tr.szL];omega
theorem qJt (f:ByteArray->Tr)(g:ByteArray->Nat):∀ (K:List ByteArray),(∀ k∈K,(f k).sz+1<=g k)->Tr.szL (K.flatMap (joinF f))<=(K.map g).sum
 |[],_=>by simp[Tr.szL]
 |k :: K,h=>by
  have h1:=h k (by simp)
  have h2:=qJt f g K fun k hk=>h k (by simp[hk])
  rw[List.flatMap_cons,List.map_cons,List.sum_cons]
  unfold joinF at h2 ⊢
  split
  ·simp;omega
  ·simp[Tr.szL];omega
theorem qJu {K:List ByteArray}(h:K.Pairwise fun a b=>ltS a b=true):K.Nodup:=
 h.imp fun {a b} hab e=>by subst e;rw[Qw]at hab;cases hab
theorem zYq (ca cb:List Sp):∀ (n:Nat) (a b:Tr),a.Ord->b.Ord->a.dep<=n->b.dep<=n->(joinT n ca cb a b).sz<=a.sz+b.sz:=by
 intro n
 induction n with
 |zero=>intro a b _ _ h _;have:=Kj a;omega
 |succ n ih=>
 intro a b ha hb hda hdb
 obtain⟨hk1,hk2⟩:=Vz a b
 have hN:=qJu hk1
 rw[joinT,Tr.sz]
 have h1:=YB ca cb _ a.es b.es (Nat.le_refl _)
 have h2:=qJt (fun k=>joinT n ca cb (kidT a k) (kidT b k)) (fun k=>kz a.ks k+kz b.ks k) (joinK a b) fun k hk=>by
  have h3:=ih (kidT a k) (kidT b k) (ZO ha k) (ZO hb k) (Y4 ha hda (YQ hda hdb hk) k) (Y4 hb hdb (YQ hda hdb hk) k)
  have h4:=zXy a.ks k a.es
  have h5:=zXy b.ks k b.es
  have e1:Tr.mk a.es a.ks=a:=by cases a;rfl
  have e2:Tr.mk b.es b.ks=b:=by cases b;rfl
  rw[e1]at h4
  rw[e2]at h5
  obtain⟨t,h|h⟩:=(hk2 k).1 hk
  ·have:=h4.2 ⟨t,h⟩;omega
  ·have:=h5.2 ⟨t,h⟩;omega
 rw[qX7]at h2
 have h3:=qUk a.ks _ hN
 have h4:=qUk b.ks _ hN
 have e1:a.sz=a.es.length+Tr.szL a.ks:=by cases a;rw[Tr.sz];rfl
 have e2:b.sz=b.es.length+Tr.szL b.ks:=by cases b;rw[Tr.sz];rfl
 omega
theorem jT_sz {a b:Tr}{ca cb:List Sp}(ha:CaOk a ca)(hb:CaOk b cb):(jT a b ca cb).sz<=a.sz+b.sz:=zYq ca cb 6 a b ha.ord hb.ord ha.dep hb.dep
theorem XX {a b:List (Int×Int)}(ha:runsR none a=true)(hb:runsR none b=true):(byL a b 0).length<=a.length+b.length:=by
 have hp:=List.mergeSort_perm (a++b) fun x y=>decide (x.1<=y.1)
 have hs:((a++b).mergeSort fun x y=>decide (x.1<=y.1)).Pairwise fun x y=>x.1<=y.1:=
  (List.pairwise_mergeSort (fun a b c h k=>by simp at h k ⊢;omega) (fun a b=>by simp;omega) (a++b)).imp fun h=>by simpa using h
 rw[←Vp ha hb hp hs]
 have h:=XL ((a++b).mergeSort fun x y=>decide (x.1<=y.1)) (((a++b).mergeSort fun x y=>decide (x.1<=y.1)).length)
 rw[List.take_of_length_le (Nat.le_refl _),hp.length_eq,List.length_append]at h
 exact h
theorem qUl (c:List Sp)(h:∀ s∈c,0<=s.dc/\s.dc<4):(partL c 0).length+(partL c 1).length+(partL c 2).length+(partL c 3).length=c.length:=by
 induction c with
 |nil=>rfl
 |cons s c ih=>
  have h1:=ih fun s hs=>h s (by simp[hs])
  have h2:=h s (by simp)
  obtain⟨dc,fr,hi⟩:=s
  simp only at h2
  have h3:dc=0∨dc=1∨dc=2∨dc=3:=by omega
  unfold partL at h1 ⊢
  simp only[List.length_map]at h1 ⊢
  rcases h3 with rfl|rfl|rfl|rfl<;>simp<;>omega
theorem zJr {a b:List Sp}(ha:Qm a=true)(hb:Qm b=true):(jC a b).length<=a.length+b.length:=by
 have h:=Y7 ha hb 0
 have hdc:∀ {c:List Sp},Qm c=true->∀ s∈c,0<=s.dc/\s.dc<4:=fun {c} hc=>Z3 c 0 (by unfold Qm at hc;rw[Bool.and_eq_true]at hc;exact hc.1)
 have e1:=qUl a (hdc ha)
 have e2:=qUl b (hdc hb)
 have e3:=qUl (jC a b) (hdc h)
 have p0:partL (jC a b) 0=byL (partL a 0) (partL b 0) 0:=Yu a b 0 (i:=0) (by omega)
 have p1:partL (jC a b) 1=byL (partL a 1) (partL b 1) 0:=Yu a b 0 (i:=1) (by omega)
 have p2:partL (jC a b) 2=byL (partL a 2) (partL b 2) 0:=Yu a b 0 (i:=2) (by omega)
 have p3:partL (jC a b) 3=byL (partL a 3) (partL b 3) 0:=Yu a b 0 (i:=3) (by omega)
 have u0:(byL (partL a 0) (partL b 0) 0).length<=(partL a 0).length+(partL b 0).length:=XX (Qx ha (i:=0) (by omega)) (Qx hb (i:=0) (by omega))
 have u1:(byL (partL a 1) (partL b 1) 0).length<=(partL a 1).length+(partL b 1).length:=XX (Qx ha (i:=1) (by omega)) (Qx hb (i:=1) (by omega))
 have u2:(byL (partL a 2) (partL b 2) 0).length<=(partL a 2).length+(partL b 2).length:=XX (Qx ha (i:=2) (by omega)) (Qx hb (i:=2) (by omega))
 have u3:(byL (partL a 3) (partL b 3) 0).length<=(partL a 3).length+(partL b 3).length:=XX (Qx ha (i:=3) (by omega)) (Qx hb (i:=3) (by omega))
 rw[←p0]at u0
 rw[←p1]at u1
 rw[←p2]at u2
 rw[←p3]at u3
 omega
abbrev Kn:=Tr×List Sp
abbrev KOk (x:Kn):Prop:=CaOk x.1 x.2
def jn (x y:Kn):Kn:=(jT x.1 y.1 x.2 y.2,jC x.2 y.2)
def kn0:Kn:=(.mk [] [],[])
theorem qZr:KOk kn0:=CaOk.nil
theorem qZs {x y:Kn}(hx:KOk x)(hy:KOk y):KOk (jn x y):=jT_ok hx hy
theorem qUm {x y:Kn}(hx:KOk x)(hy:KOk y):jn x y=jn y x:=Prod.ext (qZq hx hy).1 (qZq hx hy).2
theorem V9 {x y z:Kn}(hx:KOk x)(hy:KOk y)(hz:KOk z):jn (jn x y) z=jn x (jn y z):=Prod.ext (VD hx hy hz).1 (VD hx hy hz).2
theorem qUn {x:Kn}(hx:KOk x):jn kn0 x=x:=Prod.ext (qJs hx).1 (qJs hx).2
theorem zZt {x y z:Kn}(hx:KOk x)(hy:KOk y)(hz:KOk z):jn (jn x y) z=jn (jn x z) y:=by
 rw[V9 hx hy hz,qUm hy hz,V9 hx hz hy]
theorem jn_sz {x y:Kn}(hx:KOk x)(hy:KOk y):(jn x y).1.sz<=x.1.sz+y.1.sz/\(jn x y).2.length<=x.2.length+y.2.length:=⟨jT_sz hx hy,zJr hx.ap hy.ap⟩
def jnL (l:List Kn):Kn:=l.foldl jn kn0
theorem qVj {l m:List Kn}(hp:l.Perm m):∀ z,KOk z->(∀ x∈l,KOk x)->l.foldl jn z=m.foldl jn z:=by
 induction hp with
 |nil=>intro z _ _;rfl
 |cons x _ ih=>intro z hz h;exact ih (jn z x) (qZs hz (h x (by simp))) fun y hy=>h y (by simp[hy])
 |swap x y l=>intro z hz h;simp only[List.foldl_cons];rw[zZt hz (h y (by simp)) (h x (by simp))]
 |trans h1 _ ih1 ih2=>intro z hz h;rw[ih1 z hz h,ih2 z hz fun x hx=>h x (h1.symm.subset hx)]
theorem zZu {l m:List Kn}(hp:l.Perm m)(h:∀ x∈l,KOk x):jnL l=jnL m:=qVj hp kn0 qZr h
theorem qUo {x y z:Kn}(hx:KOk x):jnL [x,y,z]=jn (jn x y) z:=by show jn (jn (jn kn0 x) y) z=_;rw[qUn hx]
theorem jn_st {x y:Kn}(hx:KOk x)(hy:KOk y)(p:List ByteArray)(d:Dt):stE (jn x y).1 p d=jnO (stE x.1 p d) (hasC x.2 d) (stE y.1 p d) (hasC y.2 d):=Yg hx hy p d
theorem Kp {x y:Kn}(hx:KOk x)(hy:KOk y)(d:Dt):hasC (jn x y).2 d=(hasC x.2 d||hasC y.2 d):=QK hx.ap hy.ap d
theorem zZv {t:Tr}(ho:t.Ord){s:ByteArray}{x:Dt}(h:x∈(kidT t s).dots):x∈t.dots:=by
 obtain⟨p,e,hx,rfl⟩:=(Yf _ _).1 h
 exact (Yf t _).2 ⟨s :: p,e,(XH ho).1 hx,rfl⟩
theorem VE {t:Tr}(h:t.right 5=true)(s:ByteArray):(kidT t s).right 5=true:=qJa _ 4 5 (Vh (n:=4) h (by omega) s) (by omega)
theorem qUp {t:Tr}{x:ByteArray}:x∈elL t.ks↔∃ e,(([x],e):Lf)∈t.lvs []:=by
 obtain⟨es,ks⟩:=t
 unfold elL
 constructor
 ·intro h
  obtain⟨⟨k,u⟩,hu,rfl⟩:=List.mem_map.1 h
  obtain⟨hu1,hu2⟩:=List.mem_filter.1 hu
  obtain⟨es',ks'⟩:=u
  have hp:0<es'.length:=of_decide_eq_true (show decide (0<es'.length)=true from hu2)
  obtain⟨e,he⟩:=List.exists_mem_of_length_pos hp
  exact⟨e,Qt.2 ⟨_,hu1,Zs.2 he⟩⟩
 ·rintro⟨e,he⟩
  obtain⟨u,hu,hx⟩:=Qt.1 he
  have h1:=ZJ.1 hx
  have h2:=List.length_pos_of_mem h1
  exact List.mem_map.2 ⟨(x,u),List.mem_filter.2 ⟨hu,by simpa[elP] using h2⟩,rfl⟩
theorem VF {t:Tr}(ho:t.Ord):(elL t.ks).Pairwise fun a b=>ltS a b=true:=by
 obtain⟨es,ks⟩:=t
 exact List.pairwise_map.2 ((QS.1 ho).2.1.filter _)
theorem Kr {t:Tr}(h:t.right 5=true):QG t=elL t.ks:=by unfold QG;rw[h];rfl
theorem zX0 {α β:Type}{f:α->β}:∀ {l:List α},(l.map f).Nodup->∀ x∈l,∀ y∈l,f x=f y->x=y
 |a :: l,h,x,hx,y,hy,e=>by
  rw[List.map_cons,List.nodup_cons]at h
  rcases List.mem_cons.1 hx with h1|h1
  ·rcases List.mem_cons.1 hy with h2|h2
   ·rw[h1,h2]
   ·subst h1;exact absurd (List.mem_map.2 ⟨y,h2,e.symm⟩) h.1
  ·rcases List.mem_cons.1 hy with h2|h2
   ·subst h2;exact absurd (List.mem_map.2 ⟨x,h1,e⟩) h.1
   ·exact zX0 h.2 x h1 y h2 e
def updE (t:Tr)(key:ByteArray)(D:Tr)(c:List Sp):Int:=
 if !(t.right 5)||!caR D c||!keyB key then 1 else if !empB D.es.length D.ks.length&&decide (24<=t.ks.length)&&!(t.ks.any fun y=>decide (y.1=key)) then 4 else wrapE D key
def updT (t:Tr)(key:ByteArray)(D:Tr)(c:List Sp):Tr:=if updE t key D c=0 then wrapT D key else .mk [] []
def updC (t:Tr)(key:ByteArray)(D:Tr)(c:List Sp):List Sp:=if updE t key D c=0 then c else []
theorem Q9 {w3:World}{b:Nat}{x0 x1 x2:Value}{a:Addr}{v:Value}(hne:b≠a.block)(h:w3.cell? a=some v) :
  (((w3.setCell ⟨b,0,none⟩ x0).setCell ⟨b,1,none⟩ x1).setCell ⟨b,2,none⟩ x2).cell? a=some v:=by
 rw[World.cell?_setCell_far _ _ _ _ hne,World.cell?_setCell_far _ _ _ _ hne,World.cell?_setCell_far _ _ _ _ hne];exact h
theorem Ks (t D:Tr)(c:List Sp)(key:ByteArray)(ve vk xe xk xc:Value)(w:World)(h:t.rd w w.heap.size ve vk)(hD:D.rd w w.heap.size xe xk)(hc:SlP w w.heap.size 3 SpE xc c)(hkey:key.size<=Big)(hN:t.sz<=4000)(hN':D.sz<=4000)(hN2:c.length<=20000) :
  Calls Tryz.prog 125 #[.agg #[ve,vk],.string key,.agg #[xe,xk,xc]] w (RetCE w (updT t key D c) (updC t key D c) (updE t key D c)):=by
 have HT:Hid (∀ w',Below w.heap.size w w'->t.rd w' w'.heap.size ve vk):=fun w' hb=>Qi hb hb.size _ _ _ h
 have HD:Hid (∀ w',Below w.heap.size w w'->D.rd w' w'.heap.size xe xk):=fun w' hb=>Qi hb hb.size _ _ _ hD
 have HC:Hid (∀ w',Below w.heap.size w w'->SlP w' w'.heap.size 3 SpE xc c):=fun w' hb=>hc.imp hb hb.size fun _ _ _ h=>h
 have HKS:Hid (∀ w',Below w.heap.size w w'->SlP w' w'.heap.size 3 (KdE w' w'.heap.size) vk t.ks):=fun w' hb=>by
  have:=HT.out w' hb;obtain⟨es,ks⟩:=t;exact (Qz.1 this).2
 obtain⟨A3,n3,A4,n4,rfl,rfl⟩:=Qk h
 obtain⟨A5,n5,A6,n6,rfl,rfl⟩:=Qk hD
 obtain⟨A7,n7,rfl,_⟩:=hc
 have hkb:key.size<=140737488355328:=hkey
 clear h hD
 have hb0:Below w.heap.size w ((((w.alloc (.cells #[.slice A3 t.es.length n3,.slice A4 t.ks.length n4] 25)).alloc (.cells #[.string key] 9)).alloc (.cells #[.slice A5 D.es.length n5,.slice A6 D.ks.length n6,.slice A7 c.length n7] 29)).alloc (.cells #[.slice none 0 0,.slice none 0 0,.slice none 0 0] 29)):=
  ((((Below.refl _ w).alloc (Nat.le_refl _) _).alloc (by simp) _).alloc (by simp<;>omega) _).alloc (by simp<;>omega) _
 have HW:Hid (∀ w',Below (w.heap.size+4) ((((w.alloc (.cells #[.slice A3 t.es.length n3,.slice A4 t.ks.length n4] 25)).alloc (.cells #[.string key] 9)).alloc (.cells #[.slice A5 D.es.length n5,.slice A6 D.ks.length n6,.slice A7 c.length n7] 29)).alloc (.cells #[.slice none 0 0,.slice none 0 0,.slice none 0 0] 29)) w' ->
   Below w.heap.size w w'/\w.heap.size+4<=w'.heap.size/\w'.heap[w.heap.size]?=some (.cells #[.slice A3 t.es.length n3,.slice A4 t.ks.length n4] 25 (0,0))/\w'.heap[w.heap.size+1]?=some (.cells #[.string key] 9 (0,0)) /\
   w'.heap[w.heap.size+2]?=some (.cells #[.slice A5 D.es.length n5,.slice A6 D.ks.length n6,.slice A7 c.length n7] 29 (0,0))/\w'.heap[w.heap.size+3]?=some (.cells #[.slice none 0 0,.slice none 0 0,.slice none 0 0] 29 (0,0))):=fun w' hb=>
  ⟨hb0.trans (hb.mono (by omega)),by have:=hb.size;simpa using this,(hb.block _ (by omega)).trans ((Qg (by simp<;>omega)).trans ((Qg (by simp<;>omega)).trans ((Qg (by simp)).trans (Qc rfl)))),(hb.block _ (by omega)).trans ((Qg (by simp<;>omega)).trans ((Qg (by simp)).trans (Qc (by simp)))),(hb.block _ (by omega)).trans ((Qg (by simp)).trans (Qc (by simp))),(hb.block _ (by omega)).trans (Qc (by simp))⟩
 go_enter Tryz.func125,Tryz.ntmps125
 go_wp2_with fail
 refine (QJ t _ _ _ (HT.out _ hb0)).mono ?_
 rintro e w1 ⟨rfl,hb1⟩
 have hb1':=hid (hb1.mono (show w.heap.size+4<=_ by simp))
 obtain⟨hB1,hs1,g3,g4,g5,g6⟩:=HW.out _ hb1'.out
 have HG6:=hid g6
 have c0:w1.cell? ⟨w.heap.size,0,none⟩=some (.slice A3 t.es.length n3):=Qa (i:=0) g3
 have c1:w1.cell? ⟨w.heap.size,1,none⟩=some (.slice A4 t.ks.length n4):=Qa (i:=1) g3
 have d0:w1.cell? ⟨w.heap.size+1,0,none⟩=some (.string key):=Qa (i:=0) g4
 have e0:w1.cell? ⟨w.heap.size+2,0,none⟩=some (.slice A5 D.es.length n5):=Qa (i:=0) g5
 have e1:w1.cell? ⟨w.heap.size+2,1,none⟩=some (.slice A6 D.ks.length n6):=Qa (i:=1) g5
 have e2:w1.cell? ⟨w.heap.size+2,2,none⟩=some (.slice A7 c.length n7):=Qa (i:=2) g5
 have k0:w1.cell? ⟨w.heap.size+3,0,none⟩=some (.slice none 0 0):=Qa (i:=0) g6
 have k1:w1.cell? ⟨w.heap.size+3,1,none⟩=some (.slice none 0 0):=Qa (i:=1) g6
 have k2:w1.cell? ⟨w.heap.size+3,2,none⟩=some (.slice none 0 0):=Qa (i:=2) g6
 have z0:=Qb (i:=0) g6
 have z1:=Qb (i:=1) g6
 have z2:=Qb (i:=2) g6
 clear g3 g4 g5 g6
 clear hb1
 cases hr:t.right 5
 ·have HE:Hid (updE t key D c=1):=by unfold Hid updE;rw[hr];rfl
  have HTT:Hid (updT t key D c=.mk [] []):=by unfold Hid updT;rw[HE.out];rfl
  have HCC:Hid (updC t key D c=[]):=by unfold Hid updC;rw[HE.out];rfl
  clear hr
  go_wp2_with fail
  obtain⟨r0,r1,r2,hK,hS⟩:=box3 HG6.out (.slice none 0 0) (.slice none 0 0) (.slice none 0 0)
  have hBW:=((hB1.setCell (p:=⟨w.heap.size+3,0,none⟩) (by simp) (.slice none 0 0)).setCell (p:=⟨w.heap.size+3,1,none⟩) (by simp) (.slice none 0 0)).setCell (p:=⟨w.heap.size+3,2,none⟩) (by simp) (.slice none 0 0)
  refine bodyPost_ret (v:=.tuple #[.agg #[.slice none 0 0,.slice none 0 0,.slice none 0 0],.int .i64 1]) (by simp[results,Tryz.results125,go_sem,r0,r1,r2]) rfl ⟨_,_,_,by rw[HE.out],by rw[HTT.out];exact Qo _ _,by rw[HCC.out];exact SlA.nil,hBW⟩
 go_wp2_with fail
 refine (QX D c _ _ _ w1 (HD.out _ hB1) (HC.out _ hB1) hN' hN2).mono ?_
 rintro e w2 ⟨rfl,hb2⟩
 clear c0 c1 d0 e0 e1 e2 k0 k1 k2 z0 z1 z2 HG6
 have hb2':=hid (hb1'.out.trans (hb2.mono hs1))
 obtain⟨hB2,hs2,g3,g4,g5,g6⟩:=HW.out _ hb2'.out
 have HG6:=hid g6
 have c0:w2.cell? ⟨w.heap.size,0,none⟩=some (.slice A3 t.es.length n3):=Qa (i:=0) g3
 have c1:w2.cell? ⟨w.heap.size,1,none⟩=some (.slice A4 t.ks.length n4):=Qa (i:=1) g3
 have d0:w2.cell? ⟨w.heap.size+1,0,none⟩=some (.string key):=Qa (i:=0) g4
 have e0:w2.cell? ⟨w.heap.size+2,0,none⟩=some (.slice A5 D.es.length n5):=Qa (i:=0) g5
 have e1:w2.cell? ⟨w.heap.size+2,1,none⟩=some (.slice A6 D.ks.length n6):=Qa (i:=1) g5
 have e2:w2.cell? ⟨w.heap.size+2,2,none⟩=some (.slice A7 c.length n7):=Qa (i:=2) g5
 have k0:w2.cell? ⟨w.heap.size+3,0,none⟩=some (.slice none 0 0):=Qa (i:=0) g6
 have k1:w2.cell? ⟨w.heap.size+3,1,none⟩=some (.slice none 0 0):=Qa (i:=1) g6
 have k2:w2.cell? ⟨w.heap.size+3,2,none⟩=some (.slice none 0 0):=Qa (i:=2) g6
 have z0:=Qb (i:=0) g6
 have z1:=Qb (i:=1) g6
 have z2:=Qb (i:=2) g6
 clear g3 g4 g5 g6
 clear hb2
 cases hq:caR D c
 ·have HE:Hid (updE t key D c=1):=by unfold Hid updE;rw[hr,hq];rfl
  have HTT:Hid (updT t key D c=.mk [] []):=by unfold Hid updT;rw[HE.out];rfl
  have HCC:Hid (updC t key D c=[]):=by unfold Hid updC;rw[HE.out];rfl
  clear hr hq
  go_wp2_with fail
  obtain⟨r0,r1,r2,hK,hS⟩:=box3 HG6.out (.slice none 0 0) (.slice none 0 0) (.slice none 0 0)
  have hBW:=((hB2.setCell (p:=⟨w.heap.size+3,0,none⟩) (by simp) (.slice none 0 0)).setCell (p:=⟨w.heap.size+3,1,none⟩) (by simp) (.slice none 0 0)).setCell (p:=⟨w.heap.size+3,2,none⟩) (by simp) (.slice none 0 0)
  refine bodyPost_ret (v:=.tuple #[.agg #[.slice none 0 0,.slice none 0 0,.slice none 0 0],.int .i64 1]) (by simp[results,Tryz.results125,go_sem,r0,r1,r2]) rfl ⟨_,_,_,by rw[HE.out],by rw[HTT.out];exact Qo _ _,by rw[HCC.out];exact SlA.nil,hBW⟩
 cases kb:keyB key
 ·have hkb2:¬(1<=key.size/\key.size<=30):=by simpa[keyB] using kb
  have HE:Hid (updE t key D c=1):=by unfold Hid updE;rw[hr,hq,kb];rfl
  have HTT:Hid (updT t key D c=.mk [] []):=by unfold Hid updT;rw[HE.out];rfl
  have HCC:Hid (updC t key D c=[]):=by unfold Hid updC;rw[HE.out];rfl
  clear hr hq kb
  by_cases hz:key.size<1
  ·have t1:decide ((key.size:Int)<1)=true:=by simp;omega
   go_wp2_with fail
   obtain⟨r0,r1,r2,hK,hS⟩:=box3 HG6.out (.slice none 0 0) (.slice none 0 0) (.slice none 0 0)
   have hBW:=((hB2.setCell (p:=⟨w.heap.size+3,0,none⟩) (by simp) (.slice none 0 0)).setCell (p:=⟨w.heap.size+3,1,none⟩) (by simp) (.slice none 0 0)).setCell (p:=⟨w.heap.size+3,2,none⟩) (by simp) (.slice none 0 0)
   refine bodyPost_ret (v:=.tuple #[.agg #[.slice none 0 0,.slice none 0 0,.slice none 0 0],.int .i64 1]) (by simp[results,Tryz.results125,go_sem,r0,r1,r2]) rfl ⟨_,_,_,by rw[HE.out],by rw[HTT.out];exact Qo _ _,by rw[HCC.out];exact SlA.nil,hBW⟩
  ·have t1:decide ((key.size:Int)<1)=false:=by simp;omega
   have t2:decide ((30:Int)<key.size)=true:=by simp;omega
   go_wp2_with fail
   obtain⟨r0,r1,r2,hK,hS⟩:=box3 HG6.out (.slice none 0 0) (.slice none 0 0) (.slice none 0 0)
   have hBW:=((hB2.setCell (p:=⟨w.heap.size+3,0,none⟩) (by simp) (.slice none 0 0)).setCell (p:=⟨w.heap.size+3,1,none⟩) (by simp) (.slice none 0 0)).setCell (p:=⟨w.heap.size+3,2,none⟩) (by simp) (.slice none 0 0)
   refine bodyPost_ret (v:=.tuple #[.agg #[.slice none 0 0,.slice none 0 0,.slice none 0 0],.int .i64 1]) (by simp[results,Tryz.results125,go_sem,r0,r1,r2]) rfl ⟨_,_,_,by rw[HE.out],by rw[HTT.out];exact Qo _ _,by rw[HCC.out];exact SlA.nil,hBW⟩
 have hkb2:1<=key.size/\key.size<=30:=by simpa[keyB] using kb
 have t1:decide ((key.size:Int)<1)=false:=by simp;omega
 have t2:decide ((30:Int)<key.size)=false:=by simp;omega
 go_wp2_with fail
 refine (Vj (fun y=>decide (y=key)) _ _ t.ks _ w2 (HKS.out _ hB2) (zYr d0 (by omega))).mono ?_
 rintro e w3 ⟨rfl,hb3⟩
 clear c0 c1 d0 e0 e1 e2 k0 k1 k2 z0 z1 z2 HG6
 have hb3':=hid (hb2'.out.trans (hb3.mono hs2))
 obtain⟨hB3,hs3,g3,g4,g5,g6⟩:=HW.out _ hb3'.out
 have HG6:=hid g6
 have c0:w3.cell? ⟨w.heap.size,0,none⟩=some (.slice A3 t.es.length n3):=Qa (i:=0) g3
 have c1:w3.cell? ⟨w.heap.size,1,none⟩=some (.slice A4 t.ks.length n4):=Qa (i:=1) g3
 have d0:w3.cell? ⟨w.heap.size+1,0,none⟩=some (.string key):=Qa (i:=0) g4
 have e0:w3.cell? ⟨w.heap.size+2,0,none⟩=some (.slice A5 D.es.length n5):=Qa (i:=0) g5
 have e1:w3.cell? ⟨w.heap.size+2,1,none⟩=some (.slice A6 D.ks.length n6):=Qa (i:=1) g5
 have e2:w3.cell? ⟨w.heap.size+2,2,none⟩=some (.slice A7 c.length n7):=Qa (i:=2) g5
 have k0:w3.cell? ⟨w.heap.size+3,0,none⟩=some (.slice none 0 0):=Qa (i:=0) g6
 have k1:w3.cell? ⟨w.heap.size+3,1,none⟩=some (.slice none 0 0):=Qa (i:=1) g6
 have k2:w3.cell? ⟨w.heap.size+3,2,none⟩=some (.slice none 0 0):=Qa (i:=2) g6
 have z0:=Qb (i:=0) g6
 have z1:=Qb (i:=1) g6
 have z2:=Qb (i:=2) g6
 clear g3 g4 g5 g6
 clear hb3
 go_wp2_with fail
 refine (QH D.es.length D.ks.length A5 A6 n5 n6 w3).mono ?_
 rintro e w4 ⟨rfl,hb4⟩
 clear c0 c1 d0 e0 e1 e2 k0 k1 k2 z0 z1 z2 HG6
 have hb4':=hid (hb3'.out.trans (hb4.mono hs3))
 obtain⟨hB4,hs4,g3,g4,g5,g6⟩:=HW.out _ hb4'.out
 have HG6:=hid g6
 have c0:w4.cell? ⟨w.heap.size,0,none⟩=some (.slice A3 t.es.length n3):=Qa (i:=0) g3
 have c1:w4.cell? ⟨w.heap.size,1,none⟩=some (.slice A4 t.ks.length n4):=Qa (i:=1) g3
 have d0:w4.cell? ⟨w.heap.size+1,0,none⟩=some (.string key):=Qa (i:=0) g4
 have e0:w4.cell? ⟨w.heap.size+2,0,none⟩=some (.slice A5 D.es.length n5):=Qa (i:=0) g5
 have e1:w4.cell? ⟨w.heap.size+2,1,none⟩=some (.slice A6 D.ks.length n6):=Qa (i:=1) g5
 have e2:w4.cell? ⟨w.heap.size+2,2,none⟩=some (.slice A7 c.length n7):=Qa (i:=2) g5
 have k0:w4.cell? ⟨w.heap.size+3,0,none⟩=some (.slice none 0 0):=Qa (i:=0) g6
 have k1:w4.cell? ⟨w.heap.size+3,1,none⟩=some (.slice none 0 0):=Qa (i:=1) g6
 have k2:w4.cell? ⟨w.heap.size+3,2,none⟩=some (.slice none 0 0):=Qa (i:=2) g6
 have z0:=Qb (i:=0) g6
 have z1:=Qb (i:=1) g6
 have z2:=Qb (i:=2) g6
 clear g3 g4 g5 g6
 clear hb4
 have hfi:decide ((24:Int)<=(t.ks.length:Int))=decide (24<=t.ks.length):=by rw[Bool.eq_iff_iff];simp;omega
 cases em:empB D.es.length D.ks.length
 ·cases fl:decide (24<=t.ks.length)
  ·have HE0:Hid (updE t key D c=wrapE D key):=by unfold Hid updE;rw[hr,hq,kb,em,fl];simp
   rw[fl]at hfi
   clear em fl
   clear hr hq kb
   go_wp2_with fail
   refine (YP D key _ _ _ _ (HD.out _ (hB4.alloc (by omega) _)) (SlP.oneB (x:=key) (cs:=[.string key]) ⟨rfl,hkey⟩ rfl _ rfl (by simp)) (by omega)).mono ?_
   rintro e w5 ⟨v5,u5,rfl,hrd5,hb5⟩
   obtain⟨A8,n8,A9,n9,rfl,rfl⟩:=Qj hrd5
   clear c0 c1 d0 e0 e1 e2 k0 k1 k2 z0 z1 z2 HG6
   have hb5':=hid (hb4'.out.trans ((((Below.refl w4.heap.size w4).alloc (Nat.le_refl _) _).trans (hb5.mono (show w4.heap.size<=_ by simp))).mono hs4))
   obtain⟨hB5,hs5,g3,g4,g5,g6⟩:=HW.out _ hb5'.out
   have HG6:=hid g6
   have c0:w5.cell? ⟨w.heap.size,0,none⟩=some (.slice A3 t.es.length n3):=Qa (i:=0) g3
   have c1:w5.cell? ⟨w.heap.size,1,none⟩=some (.slice A4 t.ks.length n4):=Qa (i:=1) g3
   have d0:w5.cell? ⟨w.heap.size+1,0,none⟩=some (.string key):=Qa (i:=0) g4
   have e0:w5.cell? ⟨w.heap.size+2,0,none⟩=some (.slice A5 D.es.length n5):=Qa (i:=0) g5
   have e1:w5.cell? ⟨w.heap.size+2,1,none⟩=some (.slice A6 D.ks.length n6):=Qa (i:=1) g5
   have e2:w5.cell? ⟨w.heap.size+2,2,none⟩=some (.slice A7 c.length n7):=Qa (i:=2) g5
   have k0:w5.cell? ⟨w.heap.size+3,0,none⟩=some (.slice none 0 0):=Qa (i:=0) g6
   have k1:w5.cell? ⟨w.heap.size+3,1,none⟩=some (.slice none 0 0):=Qa (i:=1) g6
   have k2:w5.cell? ⟨w.heap.size+3,2,none⟩=some (.slice none 0 0):=Qa (i:=2) g6
   have z0:=Qb (i:=0) g6
   have z1:=Qb (i:=1) g6
   have z2:=Qb (i:=2) g6
   clear g3 g4 g5 g6
   have hs5':=hb5.size
   simp only[World.size_alloc]at hs5'
   clear hb5
   have hlt3:w.heap.size+3<w5.heap.size:=by omega
   have hne3:w.heap.size+3≠w5.heap.size:=by omega
   have hlt2:w.heap.size+2<w5.heap.size:=by omega
   have hne2:w.heap.size+2≠w5.heap.size:=by omega
   have hw3:wrapE D key=0∨wrapE D key=1∨wrapE D key=10:=by unfold wrapE;split<;>(try split)<;>simp
   have HTX:Hid (updT t key D c=if wrapE D key=0 then wrapT D key else .mk [] []):=by unfold Hid updT;rw[HE0.out]
   have HCX:Hid (updC t key D c=if wrapE D key=0 then c else []):=by unfold Hid updC;rw[HE0.out]
   rw[HE0.out]
   generalize wrapE D key=K at *
   generalize wrapT D key=T at *
   rcases hw3 with rfl|rfl|rfl
   ·have HX:Hid (∀ w',Below (w5.heap.size+1) (w5.alloc (.cells #[.slice A8 T.es.length n8,.slice A9 T.ks.length n9] 25)) w'->Below w5.heap.size w5 w'/\(w'.cell? ⟨w.heap.size+2,2,none⟩=some (.slice A7 c.length n7)/\w'.cell? ⟨w5.heap.size,0,none⟩=some (.slice A8 T.es.length n8)/\w'.cell? ⟨w5.heap.size,1,none⟩=some (.slice A9 T.ks.length n9))):=fun w' hb=>by
     have hB:Below w5.heap.size w5 w':=((Below.refl _ w5).alloc (Nat.le_refl _) _).trans (hb.mono (by omega))
     refine⟨hB,(hB.cell (p:=⟨w.heap.size+2,2,none⟩) (by show w.heap.size+2<_;omega)).trans e2,?_,?_⟩
     ·rw[hb.cell (p:=⟨w5.heap.size,0,none⟩) (by simp),World.cell?_alloc_new];rfl
     ·rw[hb.cell (p:=⟨w5.heap.size,1,none⟩) (by simp),World.cell?_alloc_new];rfl
    clear c0 c1 d0 e0 e1 k0 k1 k2 z0 z1 z2
    go_upto_region 9 with (fail)
    go_region_held3 (fun w'=>w'.cell? ⟨w.heap.size+2,2,none⟩=some (.slice A7 c.length n7)/\w'.cell? ⟨w5.heap.size,0,none⟩=some (.slice A8 T.es.length n8)/\w'.cell? ⟨w5.heap.size,1,none⟩=some (.slice A9 T.ks.length n9))
     (first|go_keep|exact (HX.out _ hbx.out).2|exact⟨Q9 (by simp) (HX.out _ hbx.out).2.1,Q9 (by show w.heap.size+3≠_;omega) (HX.out _ hbx.out).2.2.1,Q9 (by show w.heap.size+3≠_;omega) (HX.out _ hbx.out).2.2.2⟩)
     (first|(go_at_call 51;go_loud ((refine (Y0 c _ _ (HC.out _ ((hB5.alloc (by omega) _).drew)) (by unfold Few;omega)).mono ?_);rintro e w6 ⟨v6,rfl,ho6,hb6⟩;obtain⟨A10,c10,hv6⟩:=ho6.shape;subst hv6;have HO6:=hid ho6;have hbx:Hid (Below (w5.heap.size+1) (w5.alloc (.cells #[.slice A8 T.es.length n8,.slice A9 T.ks.length n9] 25)) w6):=(((Below.refl (w5.heap.size+1) (w5.alloc (.cells #[.slice A8 T.es.length n8,.slice A9 T.ks.length n9] 25))).drew).trans (hb6.mono (by simp)));have hby:=hid (HX.out _ hbx.out).1;have hs6:w5.heap.size+1<=w6.heap.size:=(by have:=hbx.out.size;simpa using this);have HGx:=hid ((hby.out.block (w.heap.size+3) (by omega)).trans HG6.out);have k0:w6.cell? ⟨w.heap.size+3,0,none⟩=some (.slice none 0 0):=Qa (i:=0) HGx.out;have k1:w6.cell? ⟨w.heap.size+3,1,none⟩=some (.slice none 0 0):=Qa (i:=1) HGx.out;have k2:w6.cell? ⟨w.heap.size+3,2,none⟩=some (.slice none 0 0):=Qa (i:=2) HGx.out;have z0:=Qb (i:=0) HGx.out;have z1:=Qb (i:=1) HGx.out;have z2:=Qb (i:=2) HGx.out;have hlt6:w.heap.size+3<w6.heap.size:=(by omega);have hne6:w.heap.size+3≠w6.heap.size:=(by omega);clear ho6 hb6)))
    all_goals go_wp2_with fail
    obtain⟨r0,r1,r2,hK,hS⟩:=box3 HGx.out (.slice A8 T.es.length n8) (.slice A9 T.ks.length n9) (.slice A10 c.length c10)
    have hBW:Below w.heap.size w (((w6.setCell ⟨w.heap.size+3,0,none⟩ (.slice A8 T.es.length n8)).setCell ⟨w.heap.size+3,1,none⟩ (.slice A9 T.ks.length n9)).setCell ⟨w.heap.size+3,2,none⟩ (.slice A10 c.length c10)):=(((hB5.trans (hby.out.mono (by omega))).setCell (by simp) _).setCell (by simp) _).setCell (by simp) _
    clear k0 k1 k2 z0 z1 z2
    generalize (((w6.setCell ⟨w.heap.size+3,0,none⟩ (.slice A8 T.es.length n8)).setCell ⟨w.heap.size+3,1,none⟩ (.slice A9 T.ks.length n9)).setCell ⟨w.heap.size+3,2,none⟩ (.slice A10 c.length c10))=W at *
    refine bodyPost_ret (v:=.tuple #[.agg #[.slice A8 T.es.length n8,.slice A9 T.ks.length n9,.slice A10 c.length c10],.int .i64 0]) (by simp[results,Tryz.results125,go_sem,r0,r1,r2]) rfl ⟨_,_,_,by rw[HE0.out],?_,?_,hBW⟩
    ·rw[HTX.out,if_pos trivial]
     exact Qp (fun b hb=>(hK b (by have:=hb.1;simp only[World.size_alloc]at this;omega)).trans (hby.out.block b hb.2)) (fun b hb=>⟨by have:=hb.1;simp only[World.size_alloc]at this;omega,by have:=hb.2;omega⟩) _ _ _ hrd5
    ·rw[HCX.out,if_pos trivial]
     refine (HO6.out.sla (by unfold Big;omega)).up (fun b hb=>hK b (by have:=hb.1;simp only[World.size_alloc,World.size_drew]at this;omega)) (fun b hb=>⟨by have:=hb.1;simp only[World.size_alloc,World.size_drew]at this;omega,by have:=hb.2.1;omega⟩) (fun _ _ _ h=>h)
   ·go_wp2_with fail
    obtain⟨r0,r1,r2,hK,hS⟩:=box3 HG6.out (.slice none 0 0) (.slice none 0 0) (.slice none 0 0)
    have hBW:Below w.heap.size w (((w5.setCell ⟨w.heap.size+3,0,none⟩ (.slice none 0 0)).setCell ⟨w.heap.size+3,1,none⟩ (.slice none 0 0)).setCell ⟨w.heap.size+3,2,none⟩ (.slice none 0 0)):=((hB5.setCell (by simp) _).setCell (by simp) _).setCell (by simp) _
    clear c0 c1 d0 e0 e1 e2 k0 k1 k2 z0 z1 z2
    generalize (((w5.setCell ⟨w.heap.size+3,0,none⟩ (.slice none 0 0)).setCell ⟨w.heap.size+3,1,none⟩ (.slice none 0 0)).setCell ⟨w.heap.size+3,2,none⟩ (.slice none 0 0))=W at *
    have q0:(W.alloc (.cells #[.slice A8 T.es.length n8,.slice A9 T.ks.length n9] 25)).cell? ⟨w.heap.size+1+1+1,0,none⟩=some (.slice none 0 0):=by rw[World.cell?_alloc_lt _ _ _ (by show w.heap.size+3<_;omega)];exact r0
    have q1:(W.alloc (.cells #[.slice A8 T.es.length n8,.slice A9 T.ks.length n9] 25)).cell? ⟨w.heap.size+1+1+1,1,none⟩=some (.slice none 0 0):=by rw[World.cell?_alloc_lt _ _ _ (by show w.heap.size+3<_;omega)];exact r1
    have q2:(W.alloc (.cells #[.slice A8 T.es.length n8,.slice A9 T.ks.length n9] 25)).cell? ⟨w.heap.size+1+1+1,2,none⟩=some (.slice none 0 0):=by rw[World.cell?_alloc_lt _ _ _ (by show w.heap.size+3<_;omega)];exact r2
    refine bodyPost_ret (v:=.tuple #[.agg #[.slice none 0 0,.slice none 0 0,.slice none 0 0],.int .i64 1]) (by simp[results,Tryz.results125,go_sem,q0,q1,q2]) rfl ⟨_,_,_,by rw[HE0.out],by rw[HTX.out,if_neg (by decide)];exact Qo _ _,by rw[HCX.out,if_neg (by decide)];exact SlA.nil,hBW.alloc (by omega) _⟩
   ·go_wp2_with fail
    obtain⟨r0,r1,r2,hK,hS⟩:=box3 HG6.out (.slice none 0 0) (.slice none 0 0) (.slice none 0 0)
    have hBW:Below w.heap.size w (((w5.setCell ⟨w.heap.size+3,0,none⟩ (.slice none 0 0)).setCell ⟨w.heap.size+3,1,none⟩ (.slice none 0 0)).setCell ⟨w.heap.size+3,2,none⟩ (.slice none 0 0)):=((hB5.setCell (by simp) _).setCell (by simp) _).setCell (by simp) _
    clear c0 c1 d0 e0 e1 e2 k0 k1 k2 z0 z1 z2
    generalize (((w5.setCell ⟨w.heap.size+3,0,none⟩ (.slice none 0 0)).setCell ⟨w.heap.size+3,1,none⟩ (.slice none 0 0)).setCell ⟨w.heap.size+3,2,none⟩ (.slice none 0 0))=W at *
    have q0:(W.alloc (.cells #[.slice A8 T.es.length n8,.slice A9 T.ks.length n9] 25)).cell? ⟨w.heap.size+1+1+1,0,none⟩=some (.slice none 0 0):=by rw[World.cell?_alloc_lt _ _ _ (by show w.heap.size+3<_;omega)];exact r0
    have q1:(W.alloc (.cells #[.slice A8 T.es.length n8,.slice A9 T.ks.length n9] 25)).cell? ⟨w.heap.size+1+1+1,1,none⟩=some (.slice none 0 0):=by rw[World.cell?_alloc_lt _ _ _ (by show w.heap.size+3<_;omega)];exact r1
    have q2:(W.alloc (.cells #[.slice A8 T.es.length n8,.slice A9 T.ks.length n9] 25)).cell? ⟨w.heap.size+1+1+1,2,none⟩=some (.slice none 0 0):=by rw[World.cell?_alloc_lt _ _ _ (by show w.heap.size+3<_;omega)];exact r2
    refine bodyPost_ret (v:=.tuple #[.agg #[.slice none 0 0,.slice none 0 0,.slice none 0 0],.int .i64 10]) (by simp[results,Tryz.results125,go_sem,q0,q1,q2]) rfl ⟨_,_,_,by rw[HE0.out],by rw[HTX.out,if_neg (by decide)];exact Qo _ _,by rw[HCX.out,if_neg (by decide)];exact SlA.nil,hBW.alloc (by omega) _⟩
  ·rw[fl]at hfi
   cases an:(t.ks.any fun y=>decide (y.1=key))
   ·have HE:Hid (updE t key D c=4):=by unfold Hid updE;rw[hr,hq,kb,em,fl,an];rfl
    have HTT:Hid (updT t key D c=.mk [] []):=by unfold Hid updT;rw[HE.out];rfl
    have HCC:Hid (updC t key D c=[]):=by unfold Hid updC;rw[HE.out];rfl
    clear hr hq kb em fl an
    go_wp2_with fail
    obtain⟨r0,r1,r2,hK,hS⟩:=box3 HG6.out (.slice none 0 0) (.slice none 0 0) (.slice none 0 0)
    have hBW:=((hB4.setCell (p:=⟨w.heap.size+3,0,none⟩) (by simp) (.slice none 0 0)).setCell (p:=⟨w.heap.size+3,1,none⟩) (by simp) (.slice none 0 0)).setCell (p:=⟨w.heap.size+3,2,none⟩) (by simp) (.slice none 0 0)
    refine bodyPost_ret (v:=.tuple #[.agg #[.slice none 0 0,.slice none 0 0,.slice none 0 0],.int .i64 4]) (by simp[results,Tryz.results125,go_sem,r0,r1,r2]) rfl ⟨_,_,_,by rw[HE.out],by rw[HTT.out];exact Qo _ _,by rw[HCC.out];exact SlA.nil,hBW⟩
   ·have HE0:Hid (updE t key D c=wrapE D key):=by unfold Hid updE;rw[hr,hq,kb,em,fl,an];simp
    clear em fl an
    clear hr hq kb
    go_wp2_with fail
    refine (YP D key _ _ _ _ (HD.out _ (hB4.alloc (by omega) _)) (SlP.oneB (x:=key) (cs:=[.string key]) ⟨rfl,hkey⟩ rfl _ rfl (by simp)) (by omega)).mono ?_
    rintro e w5 ⟨v5,u5,rfl,hrd5,hb5⟩
    obtain⟨A8,n8,A9,n9,rfl,rfl⟩:=Qj hrd5
    clear c0 c1 d0 e0 e1 e2 k0 k1 k2 z0 z1 z2 HG6
    have hb5':=hid (hb4'.out.trans ((((Below.refl w4.heap.size w4).alloc (Nat.le_refl _) _).trans (hb5.mono (show w4.heap.size<=_ by simp))).mono hs4))
    obtain⟨hB5,hs5,g3,g4,g5,g6⟩:=HW.out _ hb5'.out
    have HG6:=hid g6
    have c0:w5.cell? ⟨w.heap.size,0,none⟩=some (.slice A3 t.es.length n3):=Qa (i:=0) g3
    have c1:w5.cell? ⟨w.heap.size,1,none⟩=some (.slice A4 t.ks.length n4):=Qa (i:=1) g3
    have d0:w5.cell? ⟨w.heap.size+1,0,none⟩=some (.string key):=Qa (i:=0) g4
    have e0:w5.cell? ⟨w.heap.size+2,0,none⟩=some (.slice A5 D.es.length n5):=Qa (i:=0) g5
    have e1:w5.cell? ⟨w.heap.size+2,1,none⟩=some (.slice A6 D.ks.length n6):=Qa (i:=1) g5
    have e2:w5.cell? ⟨w.heap.size+2,2,none⟩=some (.slice A7 c.length n7):=Qa (i:=2) g5
    have k0:w5.cell? ⟨w.heap.size+3,0,none⟩=some (.slice none 0 0):=Qa (i:=0) g6
    have k1:w5.cell? ⟨w.heap.size+3,1,none⟩=some (.slice none 0 0):=Qa (i:=1) g6
    have k2:w5.cell? ⟨w.heap.size+3,2,none⟩=some (.slice none 0 0):=Qa (i:=2) g6
    have z0:=Qb (i:=0) g6
    have z1:=Qb (i:=1) g6
    have z2:=Qb (i:=2) g6
    clear g3 g4 g5 g6
    have hs5':=hb5.size
    simp only[World.size_alloc]at hs5'
    clear hb5
    have hlt3:w.heap.size+3<w5.heap.size:=by omega
    have hne3:w.heap.size+3≠w5.heap.size:=by omega
    have hlt2:w.heap.size+2<w5.heap.size:=by omega
    have hne2:w.heap.size+2≠w5.heap.size:=by omega
    have hw3:wrapE D key=0∨wrapE D key=1∨wrapE D key=10:=by unfold wrapE;split<;>(try split)<;>simp
    have HTX:Hid (updT t key D c=if wrapE D key=0 then wrapT D key else .mk [] []):=by unfold Hid updT;rw[HE0.out]
    have HCX:Hid (updC t key D c=if wrapE D key=0 then c else []):=by unfold Hid updC;rw[HE0.out]
    rw[HE0.out]
    generalize wrapE D key=K at *
    generalize wrapT D key=T at *
    rcases hw3 with rfl|rfl|rfl
    ·have HX:Hid (∀ w',Below (w5.heap.size+1) (w5.alloc (.cells #[.slice A8 T.es.length n8,.slice A9 T.ks.length n9] 25)) w'->Below w5.heap.size w5 w'/\(w'.cell? ⟨w.heap.size+2,2,none⟩=some (.slice A7 c.length n7)/\w'.cell? ⟨w5.heap.size,0,none⟩=some (.slice A8 T.es.length n8)/\w'.cell? ⟨w5.heap.size,1,none⟩=some (.slice A9 T.ks.length n9))):=fun w' hb=>by
      have hB:Below w5.heap.size w5 w':=((Below.refl _ w5).alloc (Nat.le_refl _) _).trans (hb.mono (by omega))
      refine⟨hB,(hB.cell (p:=⟨w.heap.size+2,2,none⟩) (by show w.heap.size+2<_;omega)).trans e2,?_,?_⟩
      ·rw[hb.cell (p:=⟨w5.heap.size,0,none⟩) (by simp),World.cell?_alloc_new];rfl
      ·rw[hb.cell (p:=⟨w5.heap.size,1,none⟩) (by simp),World.cell?_alloc_new];rfl
     clear c0 c1 d0 e0 e1 k0 k1 k2 z0 z1 z2
     go_upto_region 9 with (fail)
     go_region_held3 (fun w'=>w'.cell? ⟨w.heap.size+2,2,none⟩=some (.slice A7 c.length n7)/\w'.cell? ⟨w5.heap.size,0,none⟩=some (.slice A8 T.es.length n8)/\w'.cell? ⟨w5.heap.size,1,none⟩=some (.slice A9 T.ks.length n9))
      (first|go_keep|exact (HX.out _ hbx.out).2|exact⟨Q9 (by simp) (HX.out _ hbx.out).2.1,Q9 (by show w.heap.size+3≠_;omega) (HX.out _ hbx.out).2.2.1,Q9 (by show w.heap.size+3≠_;omega) (HX.out _ hbx.out).2.2.2⟩)
      (first|(go_at_call 51;go_loud ((refine (Y0 c _ _ (HC.out _ ((hB5.alloc (by omega) _).drew)) (by unfold Few;omega)).mono ?_);rintro e w6 ⟨v6,rfl,ho6,hb6⟩;obtain⟨A10,c10,hv6⟩:=ho6.shape;subst hv6;have HO6:=hid ho6;have hbx:Hid (Below (w5.heap.size+1) (w5.alloc (.cells #[.slice A8 T.es.length n8,.slice A9 T.ks.length n9] 25)) w6):=(((Below.refl (w5.heap.size+1) (w5.alloc (.cells #[.slice A8 T.es.length n8,.slice A9 T.ks.length n9] 25))).drew).trans (hb6.mono (by simp)));have hby:=hid (HX.out _ hbx.out).1;have hs6:w5.heap.size+1<=w6.heap.size:=(by have:=hbx.out.size;simpa using this);have HGx:=hid ((hby.out.block (w.heap.size+3) (by omega)).trans HG6.out);have k0:w6.cell? ⟨w.heap.size+3,0,none⟩=some (.slice none 0 0):=Qa (i:=0) HGx.out;have k1:w6.cell? ⟨w.heap.size+3,1,none⟩=some (.slice none 0 0):=Qa (i:=1) HGx.out;have k2:w6.cell? ⟨w.heap.size+3,2,none⟩=some (.slice none 0 0):=Qa (i:=2) HGx.out;have z0:=Qb (i:=0) HGx.out;have z1:=Qb (i:=1) HGx.out;have z2:=Qb (i:=2) HGx.out;have hlt6:w.heap.size+3<w6.heap.size:=(by omega);have hne6:w.heap.size+3≠w6.heap.size:=(by omega);clear ho6 hb6)))
     all_goals go_wp2_with fail
     obtain⟨r0,r1,r2,hK,hS⟩:=box3 HGx.out (.slice A8 T.es.length n8) (.slice A9 T.ks.length n9) (.slice A10 c.length c10)
     have hBW:Below w.heap.size w (((w6.setCell ⟨w.heap.size+3,0,none⟩ (.slice A8 T.es.length n8)).setCell ⟨w.heap.size+3,1,none⟩ (.slice A9 T.ks.length n9)).setCell ⟨w.heap.size+3,2,none⟩ (.slice A10 c.length c10)):=(((hB5.trans (hby.out.mono (by omega))).setCell (by simp) _).setCell (by simp) _).setCell (by simp) _
     clear k0 k1 k2 z0 z1 z2
     generalize (((w6.setCell ⟨w.heap.size+3,0,none⟩ (.slice A8 T.es.length n8)).setCell ⟨w.heap.size+3,1,none⟩ (.slice A9 T.ks.length n9)).setCell ⟨w.heap.size+3,2,none⟩ (.slice A10 c.length c10))=W at *
     refine bodyPost_ret (v:=.tuple #[.agg #[.slice A8 T.es.length n8,.slice A9 T.ks.length n9,.slice A10 c.length c10],.int .i64 0]) (by simp[results,Tryz.results125,go_sem,r0,r1,r2]) rfl ⟨_,_,_,by rw[HE0.out],?_,?_,hBW⟩
     ·rw[HTX.out,if_pos trivial]
      exact Qp (fun b hb=>(hK b (by have:=hb.1;simp only[World.size_alloc]at this;omega)).trans (hby.out.block b hb.2)) (fun b hb=>⟨by have:=hb.1;simp only[World.size_alloc]at this;omega,by have:=hb.2;omega⟩) _ _ _ hrd5
     ·rw[HCX.out,if_pos trivial]
      refine (HO6.out.sla (by unfold Big;omega)).up (fun b hb=>hK b (by have:=hb.1;simp only[World.size_alloc,World.size_drew]at this;omega)) (fun b hb=>⟨by have:=hb.1;simp only[World.size_alloc,World.size_drew]at this;omega,by have:=hb.2.1;omega⟩) (fun _ _ _ h=>h)
    ·go_wp2_with fail
     obtain⟨r0,r1,r2,hK,hS⟩:=box3 HG6.out (.slice none 0 0) (.slice none 0 0) (.slice none 0 0)
     have hBW:Below w.heap.size w (((w5.setCell ⟨w.heap.size+3,0,none⟩ (.slice none 0 0)).setCell ⟨w.heap.size+3,1,none⟩ (.slice none 0 0)).setCell ⟨w.heap.size+3,2,none⟩ (.slice none 0 0)):=((hB5.setCell (by simp) _).setCell (by simp) _).setCell (by simp) _
     clear c0 c1 d0 e0 e1 e2 k0 k1 k2 z0 z1 z2
     generalize (((w5.setCell ⟨w.heap.size+3,0,none⟩ (.slice none 0 0)).setCell ⟨w.heap.size+3,1,none⟩ (.slice none 0 0)).setCell ⟨w.heap.size+3,2,none⟩ (.slice none 0 0))=W at *
     have q0:(W.alloc (.cells #[.slice A8 T.es.length n8,.slice A9 T.ks.length n9] 25)).cell? ⟨w.heap.size+1+1+1,0,none⟩=some (.slice none 0 0):=by rw[World.cell?_alloc_lt _ _ _ (by show w.heap.size+3<_;omega)];exact r0
     have q1:(W.alloc (.cells #[.slice A8 T.es.length n8,.slice A9 T.ks.length n9] 25)).cell? ⟨w.heap.size+1+1+1,1,none⟩=some (.slice none 0 0):=by rw[World.cell?_alloc_lt _ _ _ (by show w.heap.size+3<_;omega)];exact r1
     have q2:(W.alloc (.cells #[.slice A8 T.es.length n8,.slice A9 T.ks.length n9] 25)).cell? ⟨w.heap.size+1+1+1,2,none⟩=some (.slice none 0 0):=by rw[World.cell?_alloc_lt _ _ _ (by show w.heap.size+3<_;omega)];exact r2
     refine bodyPost_ret (v:=.tuple #[.agg #[.slice none 0 0,.slice none 0 0,.slice none 0 0],.int .i64 1]) (by simp[results,Tryz.results125,go_sem,q0,q1,q2]) rfl ⟨_,_,_,by rw[HE0.out],by rw[HTX.out,if_neg (by decide)];exact Qo _ _,by rw[HCX.out,if_neg (by decide)];exact SlA.nil,hBW.alloc (by omega) _⟩
    ·go_wp2_with fail
     obtain⟨r0,r1,r2,hK,hS⟩:=box3 HG6.out (.slice none 0 0) (.slice none 0 0) (.slice none 0 0)
     have hBW:Below w.heap.size w (((w5.setCell ⟨w.heap.size+3,0,none⟩ (.slice none 0 0)).setCell ⟨w.heap.size+3,1,none⟩ (.slice none 0 0)).setCell ⟨w.heap.size+3,2,none⟩ (.slice none 0 0)):=((hB5.setCell (by simp) _).setCell (by simp) _).setCell (by simp) _
     clear c0 c1 d0 e0 e1 e2 k0 k1 k2 z0 z1 z2
     generalize (((w5.setCell ⟨w.heap.size+3,0,none⟩ (.slice none 0 0)).setCell ⟨w.heap.size+3,1,none⟩ (.slice none 0 0)).setCell ⟨w.heap.size+3,2,none⟩ (.slice none 0 0))=W at *
     have q0:(W.alloc (.cells #[.slice A8 T.es.length n8,.slice A9 T.ks.length n9] 25)).cell? ⟨w.heap.size+1+1+1,0,none⟩=some (.slice none 0 0):=by rw[World.cell?_alloc_lt _ _ _ (by show w.heap.size+3<_;omega)];exact r0
     have q1:(W.alloc (.cells #[.slice A8 T.es.length n8,.slice A9 T.ks.length n9] 25)).cell? ⟨w.heap.size+1+1+1,1,none⟩=some (.slice none 0 0):=by rw[World.cell?_alloc_lt _ _ _ (by show w.heap.size+3<_;omega)];exact r1
     have q2:(W.alloc (.cells #[.slice A8 T.es.length n8,.slice A9 T.ks.length n9] 25)).cell? ⟨w.heap.size+1+1+1,2,none⟩=some (.slice none 0 0):=by rw[World.cell?_alloc_lt _ _ _ (by show w.heap.size+3<_;omega)];exact r2
     refine bodyPost_ret (v:=.tuple #[.agg #[.slice none 0 0,.slice none 0 0,.slice none 0 0],.int .i64 10]) (by simp[results,Tryz.results125,go_sem,q0,q1,q2]) rfl ⟨_,_,_,by rw[HE0.out],by rw[HTX.out,if_neg (by decide)];exact Qo _ _,by rw[HCX.out,if_neg (by decide)];exact SlA.nil,hBW.alloc (by omega) _⟩
 ·have HE0:Hid (updE t key D c=wrapE D key):=by unfold Hid updE;rw[hr,hq,kb,em];simp
  clear em
  clear hr hq kb
  go_wp2_with fail
  refine (YP D key _ _ _ _ (HD.out _ (hB4.alloc (by omega) _)) (SlP.oneB (x:=key) (cs:=[.string key]) ⟨rfl,hkey⟩ rfl _ rfl (by simp)) (by omega)).mono ?_
  rintro e w5 ⟨v5,u5,rfl,hrd5,hb5⟩
  obtain⟨A8,n8,A9,n9,rfl,rfl⟩:=Qj hrd5
  clear c0 c1 d0 e0 e1 e2 k0 k1 k2 z0 z1 z2 HG6
  have hb5':=hid (hb4'.out.trans ((((Below.refl w4.heap.size w4).alloc (Nat.le_refl _) _).trans (hb5.mono (show w4.heap.size<=_ by simp))).mono hs4))
  obtain⟨hB5,hs5,g3,g4,g5,g6⟩:=HW.out _ hb5'.out
  have HG6:=hid g6
  have c0:w5.cell? ⟨w.heap.size,0,none⟩=some (.slice A3 t.es.length n3):=Qa (i:=0) g3
  have c1:w5.cell? ⟨w.heap.size,1,none⟩=some (.slice A4 t.ks.length n4):=Qa (i:=1) g3
  have d0:w5.cell? ⟨w.heap.size+1,0,none⟩=some (.string key):=Qa (i:=0) g4
  have e0:w5.cell? ⟨w.heap.size+2,0,none⟩=some (.slice A5 D.es.length n5):=Qa (i:=0) g5
  have e1:w5.cell? ⟨w.heap.size+2,1,none⟩=some (.slice A6 D.ks.length n6):=Qa (i:=1) g5
  have e2:w5.cell? ⟨w.heap.size+2,2,none⟩=some (.slice A7 c.length n7):=Qa (i:=2) g5
  have k0:w5.cell? ⟨w.heap.size+3,0,none⟩=some (.slice none 0 0):=Qa (i:=0) g6
  have k1:w5.cell? ⟨w.heap.size+3,1,none⟩=some (.slice none 0 0):=Qa (i:=1) g6
  have k2:w5.cell? ⟨w.heap.size+3,2,none⟩=some (.slice none 0 0):=Qa (i:=2) g6
  have z0:=Qb (i:=0) g6
  have z1:=Qb (i:=1) g6
  have z2:=Qb (i:=2) g6
  clear g3 g4 g5 g6
  have hs5':=hb5.size
  simp only[World.size_alloc]at hs5'
  clear hb5
  have hlt3:w.heap.size+3<w5.heap.size:=by omega
  have hne3:w.heap.size+3≠w5.heap.size:=by omega
  have hlt2:w.heap.size+2<w5.heap.size:=by omega
  have hne2:w.heap.size+2≠w5.heap.size:=by omega
  have hw3:wrapE D key=0∨wrapE D key=1∨wrapE D key=10:=by unfold wrapE;split<;>(try split)<;>simp
  have HTX:Hid (updT t key D c=if wrapE D key=0 then wrapT D key else .mk [] []):=by unfold Hid updT;rw[HE0.out]
  have HCX:Hid (updC t key D c=if wrapE D key=0 then c else []):=by unfold Hid updC;rw[HE0.out]
  rw[HE0.out]
  generalize wrapE D key=K at *
  generalize wrapT D key=T at *
  rcases hw3 with rfl|rfl|rfl
  ·have HX:Hid (∀ w',Below (w5.heap.size+1) (w5.alloc (.cells #[.slice A8 T.es.length n8,.slice A9 T.ks.length n9] 25)) w'->Below w5.heap.size w5 w'/\(w'.cell? ⟨w.heap.size+2,2,none⟩=some (.slice A7 c.length n7)/\w'.cell? ⟨w5.heap.size,0,none⟩=some (.slice A8 T.es.length n8)/\w'.cell? ⟨w5.heap.size,1,none⟩=some (.slice A9 T.ks.length n9))):=fun w' hb=>by
    have hB:Below w5.heap.size w5 w':=((Below.refl _ w5).alloc (Nat.le_refl _) _).trans (hb.mono (by omega))
    refine⟨hB,(hB.cell (p:=⟨w.heap.size+2,2,none⟩) (by show w.heap.size+2<_;omega)).trans e2,?_,?_⟩
    ·rw[hb.cell (p:=⟨w5.heap.size,0,none⟩) (by simp),World.cell?_alloc_new];rfl
    ·rw[hb.cell (p:=⟨w5.heap.size,1,none⟩) (by simp),World.cell?_alloc_new];rfl
   clear c0 c1 d0 e0 e1 k0 k1 k2 z0 z1 z2
   go_upto_region 9 with (fail)
   go_region_held3 (fun w'=>w'.cell? ⟨w.heap.size+2,2,none⟩=some (.slice A7 c.length n7)/\w'.cell? ⟨w5.heap.size,0,none⟩=some (.slice A8 T.es.length n8)/\w'.cell? ⟨w5.heap.size,1,none⟩=some (.slice A9 T.ks.length n9))
    (first|go_keep|exact (HX.out _ hbx.out).2|exact⟨Q9 (by simp) (HX.out _ hbx.out).2.1,Q9 (by show w.heap.size+3≠_;omega) (HX.out _ hbx.out).2.2.1,Q9 (by show w.heap.size+3≠_;omega) (HX.out _ hbx.out).2.2.2⟩)
    (first|(go_at_call 51;go_loud ((refine (Y0 c _ _ (HC.out _ ((hB5.alloc (by omega) _).drew)) (by unfold Few;omega)).mono ?_);rintro e w6 ⟨v6,rfl,ho6,hb6⟩;obtain⟨A10,c10,hv6⟩:=ho6.shape;subst hv6;have HO6:=hid ho6;have hbx:Hid (Below (w5.heap.size+1) (w5.alloc (.cells #[.slice A8 T.es.length n8,.slice A9 T.ks.length n9] 25)) w6):=(((Below.refl (w5.heap.size+1) (w5.alloc (.cells #[.slice A8 T.es.length n8,.slice A9 T.ks.length n9] 25))).drew).trans (hb6.mono (by simp)));have hby:=hid (HX.out _ hbx.out).1;have hs6:w5.heap.size+1<=w6.heap.size:=(by have:=hbx.out.size;simpa using this);have HGx:=hid ((hby.out.block (w.heap.size+3) (by omega)).trans HG6.out);have k0:w6.cell? ⟨w.heap.size+3,0,none⟩=some (.slice none 0 0):=Qa (i:=0) HGx.out;have k1:w6.cell? ⟨w.heap.size+3,1,none⟩=some (.slice none 0 0):=Qa (i:=1) HGx.out;have k2:w6.cell? ⟨w.heap.size+3,2,none⟩=some (.slice none 0 0):=Qa (i:=2) HGx.out;have z0:=Qb (i:=0) HGx.out;have z1:=Qb (i:=1) HGx.out;have z2:=Qb (i:=2) HGx.out;have hlt6:w.heap.size+3<w6.heap.size:=(by omega);have hne6:w.heap.size+3≠w6.heap.size:=(by omega);clear ho6 hb6)))
   all_goals go_wp2_with fail
   obtain⟨r0,r1,r2,hK,hS⟩:=box3 HGx.out (.slice A8 T.es.length n8) (.slice A9 T.ks.length n9) (.slice A10 c.length c10)
   have hBW:Below w.heap.size w (((w6.setCell ⟨w.heap.size+3,0,none⟩ (.slice A8 T.es.length n8)).setCell ⟨w.heap.size+3,1,none⟩ (.slice A9 T.ks.length n9)).setCell ⟨w.heap.size+3,2,none⟩ (.slice A10 c.length c10)):=(((hB5.trans (hby.out.mono (by omega))).setCell (by simp) _).setCell (by simp) _).setCell (by simp) _
   clear k0 k1 k2 z0 z1 z2
   generalize (((w6.setCell ⟨w.heap.size+3,0,none⟩ (.slice A8 T.es.length n8)).setCell ⟨w.heap.size+3,1,none⟩ (.slice A9 T.ks.length n9)).setCell ⟨w.heap.size+3,2,none⟩ (.slice A10 c.length c10))=W at *
   refine bodyPost_ret (v:=.tuple #[.agg #[.slice A8 T.es.length n8,.slice A9 T.ks.length n9,.slice A10 c.length c10],.int .i64 0]) (by simp[results,Tryz.results125,go_sem,r0,r1,r2]) rfl ⟨_,_,_,by rw[HE0.out],?_,?_,hBW⟩
   ·rw[HTX.out,if_pos trivial]
    exact Qp (fun b hb=>(hK b (by have:=hb.1;simp only[World.size_alloc]at this;omega)).trans (hby.out.block b hb.2)) (fun b hb=>⟨by have:=hb.1;simp only[World.size_alloc]at this;omega,by have:=hb.2;omega⟩) _ _ _ hrd5
   ·rw[HCX.out,if_pos trivial]
    refine (HO6.out.sla (by unfold Big;omega)).up (fun b hb=>hK b (by have:=hb.1;simp only[World.size_alloc,World.size_drew]at this;omega)) (fun b hb=>⟨by have:=hb.1;simp only[World.size_alloc,World.size_drew]at this;omega,by have:=hb.2.1;omega⟩) (fun _ _ _ h=>h)
  ·go_wp2_with fail
   obtain⟨r0,r1,r2,hK,hS⟩:=box3 HG6.out (.slice none 0 0) (.slice none 0 0) (.slice none 0 0)
   have hBW:Below w.heap.size w (((w5.setCell ⟨w.heap.size+3,0,none⟩ (.slice none 0 0)).setCell ⟨w.heap.size+3,1,none⟩ (.slice none 0 0)).setCell ⟨w.heap.size+3,2,none⟩ (.slice none 0 0)):=((hB5.setCell (by simp) _).setCell (by simp) _).setCell (by simp) _
   clear c0 c1 d0 e0 e1 e2 k0 k1 k2 z0 z1 z2
   generalize (((w5.setCell ⟨w.heap.size+3,0,none⟩ (.slice none 0 0)).setCell ⟨w.heap.size+3,1,none⟩ (.slice none 0 0)).setCell ⟨w.heap.size+3,2,none⟩ (.slice none 0 0))=W at *
   have q0:(W.alloc (.cells #[.slice A8 T.es.length n8,.slice A9 T.ks.length n9] 25)).cell? ⟨w.heap.size+1+1+1,0,none⟩=some (.slice none 0 0):=by rw[World.cell?_alloc_lt _ _ _ (by show w.heap.size+3<_;omega)];exact r0
   have q1:(W.alloc (.cells #[.slice A8 T.es.length n8,.slice A9 T.ks.length n9] 25)).cell? ⟨w.heap.size+1+1+1,1,none⟩=some (.slice none 0 0):=by rw[World.cell?_alloc_lt _ _ _ (by show w.heap.size+3<_;omega)];exact r1
   have q2:(W.alloc (.cells #[.slice A8 T.es.length n8,.slice A9 T.ks.length n9] 25)).cell? ⟨w.heap.size+1+1+1,2,none⟩=some (.slice none 0 0):=by rw[World.cell?_alloc_lt _ _ _ (by show w.heap.size+3<_;omega)];exact r2
   refine bodyPost_ret (v:=.tuple #[.agg #[.slice none 0 0,.slice none 0 0,.slice none 0 0],.int .i64 1]) (by simp[results,Tryz.results125,go_sem,q0,q1,q2]) rfl ⟨_,_,_,by rw[HE0.out],by rw[HTX.out,if_neg (by decide)];exact Qo _ _,by rw[HCX.out,if_neg (by decide)];exact SlA.nil,hBW.alloc (by omega) _⟩
  ·go_wp2_with fail
   obtain⟨r0,r1,r2,hK,hS⟩:=box3 HG6.out (.slice none 0 0) (.slice none 0 0) (.slice none 0 0)
   have hBW:Below w.heap.size w (((w5.setCell ⟨w.heap.size+3,0,none⟩ (.slice none 0 0)).setCell ⟨w.heap.size+3,1,none⟩ (.slice none 0 0)).setCell ⟨w.heap.size+3,2,none⟩ (.slice none 0 0)):=((hB5.setCell (by simp) _).setCell (by simp) _).setCell (by simp) _
   clear c0 c1 d0 e0 e1 e2 k0 k1 k2 z0 z1 z2
   generalize (((w5.setCell ⟨w.heap.size+3,0,none⟩ (.slice none 0 0)).setCell ⟨w.heap.size+3,1,none⟩ (.slice none 0 0)).setCell ⟨w.heap.size+3,2,none⟩ (.slice none 0 0))=W at *
   have q0:(W.alloc (.cells #[.slice A8 T.es.length n8,.slice A9 T.ks.length n9] 25)).cell? ⟨w.heap.size+1+1+1,0,none⟩=some (.slice none 0 0):=by rw[World.cell?_alloc_lt _ _ _ (by show w.heap.size+3<_;omega)];exact r0
   have q1:(W.alloc (.cells #[.slice A8 T.es.length n8,.slice A9 T.ks.length n9] 25)).cell? ⟨w.heap.size+1+1+1,1,none⟩=some (.slice none 0 0):=by rw[World.cell?_alloc_lt _ _ _ (by show w.heap.size+3<_;omega)];exact r1
   have q2:(W.alloc (.cells #[.slice A8 T.es.length n8,.slice A9 T.ks.length n9] 25)).cell? ⟨w.heap.size+1+1+1,2,none⟩=some (.slice none 0 0):=by rw[World.cell?_alloc_lt _ _ _ (by show w.heap.size+3<_;omega)];exact r2
   refine bodyPost_ret (v:=.tuple #[.agg #[.slice none 0 0,.slice none 0 0,.slice none 0 0],.int .i64 10]) (by simp[results,Tryz.results125,go_sem,q0,q1,q2]) rfl ⟨_,_,_,by rw[HE0.out],by rw[HTX.out,if_neg (by decide)];exact Qo _ _,by rw[HCX.out,if_neg (by decide)];exact SlA.nil,hBW.alloc (by omega) _⟩
end Go.Proofs.YtidebdbjekijkaaGreat
