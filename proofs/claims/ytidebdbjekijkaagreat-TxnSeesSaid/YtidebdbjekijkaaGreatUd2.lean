/- What the laws need. No condition but those that each lemma states. -/
import Derived.Deep.RegionLaw
import Derived.Laws.StructEq
import Derived.Sort.Walk0
import Derived.Test.YtidebdbjekijkaaGreatProg
import Derived.Test.YtidebdbjekijkaaGreatUd1
set_option maxRecDepth 100000
set_option maxHeartbeats 8000000
set_option linter.unusedSimpArgs false
namespace Go.Proofs.YtidebdbjekijkaaGreat
open Go.RowKit
def QT (ls:Nat->List (Int×Int))(k:Nat):List Sp:=(List.range k).flatMap fun (dc:Nat)=>QE (dc:Int) (ls dc)
theorem Z2 (ls:Nat->List (Int×Int))(k:Nat):QT ls (k+1)=QT ls k++QE (k:Int) (ls k):=by
 unfold QT;rw[List.range_succ,List.flatMap_append];simp
theorem Vq (ls:Nat->List (Int×Int))(n:Nat)(h:∀ i,i<4->(ls i).length<=n):∀ k,k<=4->(QT ls k).length<=k*n
 |0,_=>by simp[QT]
 |k+1,hk=>by
  rw[Z2,List.length_append,Nat.add_mul]
  have:=Vq ls n h k (by omega)
  have h2:=h k (by omega)
  unfold QE;rw[List.length_map];omega
theorem qQ2 (ls:Nat->List (Int×Int))(vs:Nat->Value)(w:World)(h:∀ i,i<4->SlP w w.heap.size 2 RuE (vs i) (ls i))(hN:∀ i,i<4->(ls i).length<=200000) :
  Calls Tryz.prog 116 #[.agg #[vs 0,vs 1,vs 2,vs 3]] w (RetO w 45 3 (fun _=>SpE) (QT ls 4)):=by
 obtain⟨A0,m0,g0,_⟩:=h 0 (by omega)
 obtain⟨A1,m1,g1,_⟩:=h 1 (by omega)
 obtain⟨A2,m2,g2,_⟩:=h 2 (by omega)
 obtain⟨A3,m3,g3,_⟩:=h 3 (by omega)
 have G0:=hid g0
 have G1:=hid g1
 have G2:=hid g2
 have G3:=hid g3
 have H:=hid h
 simp only[g0,g1,g2,g3]
 clear g0 g1 g2 g3 h
 go_enter Tryz.func116,Tryz.ntmps116
 go_wp2_with fail
 go_loopw [3,9] (fun v i wr=>∃ k:Nat,k<=4/\i=.int .i64 k/\OwnP wr (w.heap.size+1) 45 3 SpE v (QT ls k)/\Below w.heap.size w wr) (fun _ i _=>4-(intOf i).toNat)
 case atStart=>exact⟨0,Nat.zero_le _,rfl,OwnP.nil,(Below.refl _ _).alloc (Nat.le_refl _) _⟩
 case round=>
  obtain⟨k,hk,rfl,hown,hb⟩:=hrel
  have hsz:=hb.size
  by_cases hlt:k<4
  ·obtain⟨A,n,gv,b1,b2,b3⟩:=H.out k hlt
   have hNk:=hN k hlt
   have hidx:∀ w,(Instr.index 150 (.agg #[.slice A0 (ls 0).length m0,.slice A1 (ls 1).length m1,.slice A2 (ls 2).length m2,.slice A3 (ls 3).length m3]) (.int .i64 (k:Int))).run Tryz.prog w=.ok (.slice A (ls k).length n) w:=fun w=>by
    rw[←gv]
    match k,hlt with
    |0,_=>rw[G0.out];rfl
    |1,_=>rw[G1.out];rfl
    |2,_=>rw[G2.out];rfl
    |3,_=>rw[G3.out];rfl
   have hkl:decide ((k:Int)<4)=true:=by simp;omega
   have HK:=hid (Z2 ls k)
   have hwl:=Vq ls 200000 hN k hk
   have hwl2:(QT ls k).length<=600000:=by omega
   clear gv hwl
   unfold Big at b2
   go_wp2_with fail
   obtain⟨wo,rfl⟩:∃ wo:World,wo=wr:=⟨_,rfl⟩
   go_loopw [3,15] (fun v i wr=>∃ j:Nat,j<=(ls k).length/\i=.int .i64 j/\OwnP wr (w.heap.size+1) 45 3 SpE v (QT ls k++QE (k:Int) ((ls k).take j))/\Below w.heap.size w wr) (fun _ i _=>(ls k).length-(intOf i).toNat)
   case atStart=>exact⟨0,Nat.zero_le _,rfl,by simpa[QE] using hown,hb⟩
   case round=>
    obtain⟨j,hj,rfl,hown,hb⟩:=hrel
    have hsz:=hb.size
    have hsz1:w.heap.size+1<=wr.heap.size+1:=by omega
    by_cases hjl:j<(ls k).length
    ·obtain⟨x,hx⟩:∃ x,(ls k)[j]?=some x:=⟨_,List.getElem?_eq_getElem hjl⟩
     obtain⟨b,off,rfl,hbB,hc⟩:=b3 (by intro e;rw[e]at hjl;simp at hjl)
     obtain⟨cs,⟨rfl,hok⟩,_,hu⟩:=hc j _ hx
     have e0:wr.cell? ⟨b,off+j*2,none⟩=some (.int .i64 x.1):=(hb.cell hbB).trans (hu 0 _ rfl)
     have e1:wr.cell? ⟨b,off+j*2+1,none⟩=some (.int .i64 x.2):=(hb.cell hbB).trans (hu 1 _ rfl)
     have HX:Hid (QT ls k++QE (k:Int) ((ls k).take (j+1))=(QT ls k++QE (k:Int) ((ls k).take j))++[⟨k,x.1,x.2⟩]):=by unfold Hid QE;rw[ZT hx,List.map_append,List.append_assoc];rfl
     have HL:Hid ((QT ls k++QE (k:Int) ((ls k).take j)).length + [(⟨k,x.1,x.2⟩:Sp)].length<=Few):=by
      unfold Hid Few QE;simp;omega
     have J0:Hid (SpE ⟨k,x.1,x.2⟩ [.int .i64 (k:Int),.int .i64 x.1,.int .i64 x.2]):=⟨rfl,⟨by show _<=(k:Int);omega,by show (k:Int)<=_;omega⟩,hok.1,hok.2⟩
     clear hu hx hc b3 hok
     go_wp2_with (at_builtin;go_loud ((refine Ql rfl (.tmp 19) (.tmp 26) _ rfl qQm (by decide) (by decide) (fun _ _ h=>h.one) rfl ((hown.alloc _).alloc _) rfl (SlP.one J0.out rfl _ (by simp)) HL.out (by rw[World.size_alloc,World.size_alloc];omega) ?_);intro v1 w1 hown1 hb1 _))
     go_roundw
     case rel=>exact⟨j+1,by omega,by go_num,by rw[HX.out];exact hown1,(((hb.alloc hsz _).alloc (by rw[World.size_alloc];omega) _).trans (hb1.mono (by omega)))⟩
     case measure=>simp[intOf];omega
    ·obtain rfl:j=(ls k).length:=by omega
     rw[List.take_of_length_le (Nat.le_refl _)]at hown
     go_wp2_with fail
     go_roundw
     case rel=>exact⟨k+1,by omega,by go_num,by rw[HK.out];exact hown,hb⟩
     case measure=>simp[intOf];omega
  ·obtain rfl:k=4:=by omega
   go_wp2_with fail
   go_ret
   exact⟨_,rfl,hown.mono (by omega),hb⟩
def hasC (c:List Sp)(d:Dt):Bool:=d.right&&hasL (partL c d.dc) d.n
theorem Zu (c:List Sp)(d:Dt)(vc:Value)(w:World)(h:SlP w w.heap.size 3 SpE vc c)(hN:c.length<=999999) :
  Calls Tryz.prog 65 #[vc,.agg #[.int .i64 d.dc,.int .i64 d.n]] w fun e w'=>e=.returned (.bool (hasC c d))/\Below w.heap.size w w':=by
 have HB:Hid (∀ w',Below (w.heap.size+1) (w.alloc (.cells #[.int .i64 d.dc,.int .i64 d.n] 52)) w'->Below w.heap.size w w'/\w'.cell? ⟨w.heap.size,0,none⟩=some (.int .i64 d.dc)/\w'.cell? ⟨w.heap.size,1,none⟩=some (.int .i64 d.n)):=fun w' hb=>
  ⟨((Below.refl _ w).alloc (Nat.le_refl _) _).trans (hb.mono (by omega)),by rw[hb.cell (p:=⟨w.heap.size,0,none⟩) (by simp)];simp,by rw[hb.cell (p:=⟨w.heap.size,1,none⟩) (by simp)];simp⟩
 have HC:Hid (∀ w',Below w.heap.size w w'->SlP w' w'.heap.size 3 SpE vc c):=fun w' hb=>h.imp hb hb.size (fun _ _ _ h=>h)
 obtain⟨A,n,rfl,_,_,_⟩:=h
 go_enter Tryz.func65,Tryz.ntmps65
 rcases hr:d.right
 ·have f0:=Qh (B:=w.heap.size+1) (HB.out _ (Below.refl _ _)).2.1 (by omega)
  have f1:=Qh (B:=w.heap.size+1) (HB.out _ (Below.refl _ _)).2.2 (by omega)
  go_upto_region 1 with (fail)
  refine Qd (w.heap.size+1) (by kernel_rfl) (by kernel_rfl) ?_
  repeat (go_big_quiet_step ((go_at_call 64;exact Calls.far_of (by simp) (hr▸Ze d _))))
  refine wpQuiet_nil ?_
  intro wq hbq
  go_wp2_with fail
  go_ret
  exact⟨Qf (by rw[hasC,hr];rfl),(HB.out _ hbq).1⟩
 ·go_upto_region 1 with (fail)
  go_region_held3 (fun w'=>w'.cell? ⟨w.heap.size,0,none⟩=some (.int .i64 d.dc)/\w'.cell? ⟨w.heap.size,1,none⟩=some (.int .i64 d.n))
   (first|go_keep|exact (HB.out _ hb2).2|exact (HB.out _ hb1).2)
   (first
       |(go_at_call 64;refine (Ze d _).mono ?_;rw[hr];rintro e w1 ⟨rfl,hb⟩;have hb1:Below (w.heap.size+1) (w.alloc (.cells #[.int .i64 d.dc,.int .i64 d.n] 52)) w1:=((Below.refl _ _).drew).trans (hb.mono (by simp)))
       |(go_at_call 113;go_loud ((refine (Yx c d.dc _ w1 (HC.out _ (HB.out _ hb1).1) hN).mono ?_);rintro e w2 ⟨vp,rfl,ho,hb'⟩;have hb2:=hb1.trans (hb'.mono (by have:=hb1.size;simpa using this));have hsl:=ho.sl (by have:=QO c d.dc;unfold Big;omega)))
       |(go_at_call 112;go_loud ((refine (Jb (partL c d.dc) d.n _ w2 _ hsl).mono ?_);rintro e w3 ⟨rfl,rfl⟩)))
  go_wp2_with fail
  go_ret
  exact⟨Qf (by rw[hasC,hr];rfl),(HB.out _ hb2).1⟩
mutual
def Tr.room:Tr->Int->Int->Int
 |.mk es ks,left,deep=>Tr.roomL ks (left-es.length-ks.length) deep
def Tr.roomL:List (ByteArray×Tr)->Int->Int->Int
 |[],left,_=>left
 |(_,t) :: ks,left,deep=>if left<0∨deep=0 then -1 else Tr.roomL ks (t.room left (deep-1)) deep
end
mutual
theorem room_bd:∀ (t:Tr),t.Fit->∀ (left deep:Int),0<=left->-562949953421312<=t.room left deep/\t.room left deep<=left
 |.mk es ks,⟨b1,b2,h3⟩,left,deep,h0=>by
  unfold Big at b1 b2
  rw[Tr.room]
  have h4:=roomL_bd ks h3 (left-es.length-ks.length) deep (by omega)
  refine⟨h4.1,?_⟩
  cases ks with
  |nil=>rw[Tr.roomL];simp;omega
  |cons p ks=>have:=h4.2;simp only[List.length_cons]at *;omega
theorem roomL_bd:∀ (ks:List (ByteArray×Tr)),Tr.FitL ks->∀ (left deep:Int),-562949953421312<=left->-562949953421312<=Tr.roomL ks left deep/\Tr.roomL ks left deep<=max left (-1)
 |[],_,left,deep,h=>by rw[Tr.roomL];omega
 |(k,t) :: ks,⟨f1,f2⟩,left,deep,h=>by
  rw[Tr.roomL]
  split
  ·omega
  ·have h1:=room_bd t f1 left (deep-1) (by omega)
   have h2:=roomL_bd ks f2 (t.room left (deep-1)) deep h1.1
   omega
end
theorem zZg (t:Tr):∀ (left deep:Int) (w:World) (ve vk:Value),t.rd w w.heap.size ve vk->0<=left->left<=1000->0<=deep->deep<=1000 ->
  Calls Tryz.prog 108 #[.agg #[ve,vk],.int .i64 left,.int .i64 deep] w fun e w'=>e=.returned (.int .i64 (t.room left deep))/\Below w.heap.size w w':=by
 induction t using Tr.ind with
 |h es ks ih=>
 intro left deep w ve vk h h0 h1 h2 h3
 have hfit:=Vb _ _ _ h
 rw[Qz]at h
 obtain⟨⟨A,n,rfl,b1,b2,b3⟩,⟨B,m,rfl,c1,c2,c3⟩⟩:=h
 obtain⟨_,_,hfitL⟩:=hfit
 unfold Big at b2 c2
 clear b3
 go_enter Tryz.func108,Tryz.ntmps108
 go_wp2_with fail
 go_loopw [1,20] (fun l i wr=>∃ (k:Nat) (L:Int),k<=ks.length/\i=.int .i64 k/\l=.int .i64 L/\-562949953421312<=L/\L<=1000/\Hid (Tr.roomL (ks.drop k) L deep=Tr.roomL ks (left-es.length-ks.length) deep) /\
   Below (w.heap.size+1) (w.alloc (.cells #[.slice A es.length n,.slice B ks.length m] 25)) wr) (fun _ i _=>ks.length-(intOf i).toNat)
 case atStart=>exact⟨0,_,Nat.zero_le _,rfl,rfl,by omega,by omega,rfl,Below.refl _ _⟩
 case round=>
  obtain⟨k,L,hk,rfl,rfl,hL1,hL2,hrel,hb⟩:=hrel
  have hw1:wr.cell? ⟨w.heap.size,1,none⟩=some (.slice B ks.length m):=by rw[hb.cell (p:=⟨w.heap.size,1,none⟩) (by simp)];simp
  have hsz:=hb.size
  simp only[World.size_alloc]at hsz
  by_cases hlt:k<ks.length
  ·obtain⟨⟨key,t⟩,hkt⟩:∃ x,ks[k]?=some x:=⟨_,List.getElem?_eq_getElem hlt⟩
   obtain⟨b,off,rfl,hbB,hc⟩:=c3 (by rintro rfl;simp at hlt)
   obtain⟨cs,⟨ve,vk,rfl,_,hrd⟩,_,hu⟩:=hc k _ hkt
   have hb0:Below w.heap.size w wr:=((Below.refl _ w).alloc (Nat.le_refl _) _).trans (hb.mono (by omega))
   have e1:wr.cell? ⟨b,off+k*3+1,none⟩=some ve:=(hb0.cell hbB).trans (hu 1 _ rfl)
   have e2:wr.cell? ⟨b,off+k*3+2,none⟩=some vk:=(hb0.cell hbB).trans (hu 2 _ rfl)
   have hrd':=Qi hb0 (by omega:w.heap.size<=wr.heap.size) t _ _ hrd
   have HR:=hid hrd'
   clear hc hu hrd hrd' c3 hb0
   have hcons:ks.drop k=(key,t) :: ks.drop (k+1):=by
    rw[List.drop_eq_getElem_cons hlt];congr 1
    rw[List.getElem?_eq_getElem hlt]at hkt;exact Option.some.inj hkt
   have hmem:(key,t)∈ks:=List.mem_of_getElem? hkt
   have hbd:=fun h0=>room_bd t (qYv hfitL hmem) L (deep-1) h0
   have HC:=hid hcons
   clear hcons
   by_cases hL:L<0
   ·go_wp2_with fail
    go_ret
    refine⟨Qn ?_,((Below.refl _ w).alloc (Nat.le_refl _) _).trans (hb.mono (by omega))⟩
    rw[Tr.room,←hrel.out,HC.out,Tr.roomL,if_pos (by omega)]
   by_cases hd:deep=0
   ·subst hd
    go_wp2_with fail
    go_ret
    refine⟨Qn ?_,((Below.refl _ w).alloc (Nat.le_refl _) _).trans (hb.mono (by omega))⟩
    rw[Tr.room,←hrel.out,HC.out,Tr.roomL,if_pos (by omega)]
   ·have hd':(deep==0)=false:=by simpa using hd
    go_wp2_with (go_at_call 108;refine (ih key t hmem _ _ _ _ _ HR.out (by omega) (by omega) (by omega) (by omega)).mono ?_;rintro e w1 ⟨rfl,hb1⟩)
    go_roundw
    case rel=>
     refine⟨k+1,_,by omega,by go_num,rfl,(hbd (by omega)).1,by have:=hbd (by omega);omega,?_,hb.trans (hb1.mono hsz)⟩
     have h1:=hrel.out
     rw[HC.out,Tr.roomL,if_neg (by omega)]at h1
     exact h1
    case measure=>simp[intOf];omega
  ·obtain rfl:k=ks.length:=by omega
   go_wp2_with fail
   go_ret
   refine⟨Qn ?_,((Below.refl _ w).alloc (Nat.le_refl _) _).trans (hb.mono (by omega))⟩
   rw[Tr.room,←hrel.out]
   simp[Tr.roomL]
theorem qQ6 (t:Tr):∀ (deep:Int) (w:World) (ve vk:Value),t.rd w w.heap.size ve vk->0<=deep->deep<=1000 ->
  Calls Tryz.prog 62 #[.agg #[ve,vk],.int .i64 deep] w fun e w'=>e=.returned (.bool (t.right deep))/\Below w.heap.size w w':=by
 induction t using Tr.ind with
 |h es ks ih=>
 intro deep w ve vk h h0 h1
 rw[Qz]at h
 obtain⟨⟨A0,n0,rfl,d1,d2,d3⟩,⟨A,m,rfl,c1,c2,c3⟩⟩:=h
 unfold Big at c2 d2
 by_cases hd:deep=0
 ·subst hd
  go_enter Tryz.func62,Tryz.ntmps62
  go_wp2_with fail
  go_ret
  exact⟨Qf (by rw[Tr.right];simp),by go_grown⟩
 have hd':(deep==0)=false:=by simpa using hd
 have hwd:IntKind.i64.wrap (deep-1)=deep-1:=IntWalk.i64_in _ (by omega)
 have hd1:1<=deep:=by omega
 clear hd
 go_enter Tryz.func62,Tryz.ntmps62
 go_wp2_with fail
 go_loopw [13] (fun i wr=>∃ k:Nat,k<=es.length/\i=.int .i64 k/\Hid (entsB (prevD es k) (es.drop k)=entsB none es)/\Below (w.heap.size+1) (w.alloc (.cells #[.slice A0 es.length n0,.slice A ks.length m] 25)) wr) (fun i _=>es.length-(intOf i).toNat)
 case atStart=>exact⟨0,Nat.zero_le _,rfl,rfl,Below.refl _ _⟩
 case round=>
  obtain⟨k,hk,rfl,hrel,hb⟩:=hrel
  have hsz:=hb.size
  simp only[World.size_alloc]at hsz
  have hB0:Below w.heap.size w wr:=((Below.refl _ w).alloc (Nat.le_refl _) _).trans (hb.mono (by omega))
  by_cases hlt:k<es.length
  ·obtain⟨x,hx⟩:∃ x,es[k]?=some x:=⟨_,List.getElem?_eq_getElem hlt⟩
   obtain⟨b,off,rfl,hbB,hc⟩:=d3 (by rintro rfl;simp at hlt)
   obtain⟨cs,⟨rfl,hok⟩,_,hu⟩:=hc k _ hx
   have f0:=Qh (B:=wr.heap.size) ((hB0.cell hbB).trans (hu 0 _ rfl)) (by omega)
   have f1:=Qh (B:=wr.heap.size) ((hB0.cell hbB).trans (hu 1 _ rfl)) (by omega)
   have f2:=Qh (B:=wr.heap.size) ((hB0.cell hbB).trans (hu 2 _ rfl)) (by omega)
   have f3:=Qh (B:=wr.heap.size) ((hB0.cell hbB).trans (hu 3 _ rfl)) (by omega)
   simp only[Nat.add_zero]at f0
   have z0:wr.cell? ⟨w.heap.size,0,none⟩=some (.slice (some ⟨b,off,none⟩) es.length n0):=by rw[hb.cell (p:=⟨w.heap.size,0,none⟩) (by simp)];simp
   have r0:=Qh (B:=wr.heap.size) z0 (by omega)
   have HB0:=hid hB0
   have hprev:∃ y:En,(0<k->es[k-1]?=some y/\(∀ p:Far wr.heap.size wr,p.w'.cell? ⟨b,off+(k-1)*4,none⟩=some (.int .i64 y.dc)/\p.w'.cell? ⟨b,off+(k-1)*4+1,none⟩=some (.int .i64 y.n))):=by
    by_cases h0:0<k
    ·obtain⟨y,hy⟩:∃ y,es[k-1]?=some y:=⟨_,List.getElem?_eq_getElem (by omega)⟩
     obtain⟨cs,⟨rfl,_⟩,_,hu⟩:=hc (k-1) _ hy
     exact⟨y,fun _=>⟨hy,fun p=>⟨Qh ((hB0.cell hbB).trans (hu 0 _ rfl)) (by omega) p,Qh ((hB0.cell hbB).trans (hu 1 _ rfl)) (by omega) p⟩⟩⟩
    ·exact⟨x,fun h=>absurd h h0⟩
   obtain⟨y,hprev⟩:=hprev
   have HR:Hid (entsB none es=(x.right&&okP (prevD es k) x.dot&&entsB (prevD es (k+1)) (es.drop (k+1)))):=by
    have:=hrel.out
    rw[QM hx,ZS]at this
    rw[Vc hx];exact this.symm
   clear hu hc hrel d3 c3 z0 hx hB0
   rcases hxr:x.right
   ·go_upto_region 6 with (fail)
    refine Qd wr.heap.size (by kernel_rfl) (by kernel_rfl) ?_
    repeat (go_big_quiet_step (first|(go_at_call 109;exact Calls.far_of (Nat.le_refl _) (Z9 x _))|(go_at_call 104;exact Calls.far_of (Nat.le_refl _) (QF ⟨_,_⟩ ⟨_,_⟩ _))))
    refine wpQuiet_nil ?_
    intro wq hbq
    go_wp2_with fail
    go_ret
    refine⟨Qf ?_,HB0.out.trans (hbq.mono (by omega))⟩
    rw[Tr.right,HR.out]
    rw[hxr];simp
   rcases Nat.eq_zero_or_pos k with h0|h0
   ·have t0:decide ((0:Int)<(k:Int))=false:=by simp;omega
    have t0':decide (0<k)=false:=by simp;omega
    have H0:=hid h0
    clear h0 hprev
    go_upto_region 6 with (fail)
    refine Qd wr.heap.size (by kernel_rfl) (by kernel_rfl) ?_
    repeat (go_big_quiet_step (first|(go_at_call 109;exact Calls.far_of (Nat.le_refl _) (Z9 x _))|(go_at_call 104;exact Calls.far_of (Nat.le_refl _) (QF ⟨_,_⟩ ⟨_,_⟩ _))))
    refine wpQuiet_nil ?_
    intro wq hbq
    go_wp2_with fail
    go_roundw
    case rel=>
     refine⟨k+1,by omega,by go_num,?_,hb.trans (hbq.mono (by omega))⟩
     show _=_
     rw[HR.out,hxr]
     rw[show prevD es k=none by (rw[H0.out];rfl)];simp[okP]
    case measure=>simp[intOf];omega
   obtain⟨hy,hq⟩:=hprev h0
   have q0:=fun p=>(hq p).1
   have q1:=fun p=>(hq p).2
   clear hq hprev
   have hyp:Hid (prevD es k=some y.dot):=by unfold Hid prevD;rw[if_neg (by omega),hy];rfl
   have hwk:IntKind.i64.wrap ((k:Int)-1)=(k:Int)-1:=IntWalk.i64_in _ (by omega)
   clear hy
   rcases t5:Dt.lt ⟨y.dc,y.n⟩ ⟨x.dc,x.n⟩
   ·go_upto_region 6 with (fail)
    refine Qd wr.heap.size (by kernel_rfl) (by kernel_rfl) ?_
    repeat (go_big_quiet_step (first|(go_at_call 109;exact Calls.far_of (Nat.le_refl _) (Z9 x _))|(go_at_call 104;exact Calls.far_of (Nat.le_refl _) (QF ⟨_,_⟩ ⟨_,_⟩ _))))
    refine wpQuiet_nil ?_
    intro wq hbq
    go_wp2_with fail
    go_ret
    refine⟨Qf ?_,HB0.out.trans (hbq.mono (by omega))⟩
    rw[Tr.right,HR.out]
    rw[hyp.out,show okP (some y.dot) x.dot=false from t5];simp
   ·go_upto_region 6 with (fail)
    refine Qd wr.heap.size (by kernel_rfl) (by kernel_rfl) ?_
    repeat (go_big_quiet_step (first|(go_at_call 109;exact Calls.far_of (Nat.le_refl _) (Z9 x _))|(go_at_call 104;exact Calls.far_of (Nat.le_refl _) (QF ⟨_,_⟩ ⟨_,_⟩ _))))
    refine wpQuiet_nil ?_
    intro wq hbq
    go_wp2_with fail
    go_roundw
    case rel=>
     refine⟨k+1,by omega,by go_num,?_,hb.trans (hbq.mono (by omega))⟩
     show _=_
     rw[HR.out,hxr]
     rw[hyp.out,show okP (some y.dot) x.dot=true from t5];simp
    case measure=>simp[intOf];omega
  ·obtain rfl:k=es.length:=by omega
   have hE:Hid (entsB none es=true):=by have:=hrel.out;rw[List.drop_of_length_le (Nat.le_refl _)]at this;rw[←this];simp[Hid,entsB]
   clear hrel
   have z9:wr.cell? ⟨w.heap.size,1,none⟩=some (.slice A ks.length m):=by rw[hb.cell (p:=⟨w.heap.size,1,none⟩) (by simp)];simp
   go_wp2_with fail
   clear z9
   obtain⟨wo,rfl⟩:∃ wo:World,wo=wr:=⟨_,rfl⟩
   go_loopw [48] (fun i wr=>∃ k:Nat,k<=ks.length/\i=.int .i64 k/\Hid (Tr.rightL (prevK ks k) (ks.drop k) deep=Tr.rightL none ks deep)/\Below (w.heap.size+1) (w.alloc (.cells #[.slice A0 es.length n0,.slice A ks.length m] 25)) wr) (fun i _=>ks.length-(intOf i).toNat)
   case atStart=>exact⟨0,Nat.zero_le _,rfl,rfl,hb⟩
   case round=>
    clear hb hsz hB0
    obtain⟨k,hk,rfl,hrel,hb⟩:=hrel
    have hsz:=hb.size
    simp only[World.size_alloc]at hsz
    have hB0:Below w.heap.size w wr:=((Below.refl _ w).alloc (Nat.le_refl _) _).trans (hb.mono (by omega))
    by_cases hlt:k<ks.length
    ·obtain⟨⟨key,t⟩,hx⟩:∃ x,ks[k]?=some x:=⟨_,List.getElem?_eq_getElem hlt⟩
     obtain⟨b,off,rfl,hbB,hc⟩:=c3 (by rintro rfl;simp at hlt)
     obtain⟨cs,⟨ve',vk',rfl,hkb,hrd⟩,_,hu⟩:=hc k _ hx
     have hbo:∀ o,wr.cell? ⟨b,o,none⟩=w.cell? ⟨b,o,none⟩:=fun o=>(hb.cell (p:=⟨b,o,none⟩) (by simp;omega)).trans (World.cell?_alloc_lt _ _ _ hbB)
     have hmem:(key,t)∈ks:=List.mem_of_getElem? hx
     obtain⟨es',ks'⟩:=t
     have hrd0:=hrd
     rw[Qz]at hrd
     obtain⟨⟨A1,n1,rfl,l1,l1',_⟩,⟨A2,n2,rfl,l2,l2',_⟩⟩:=hrd
     unfold Big at l1' l2'
     have e0:wr.cell? ⟨b,off+k*3,none⟩=some (.string key):=(hbo _).trans (hu 0 _ rfl)
     have e1:wr.cell? ⟨b,off+k*3+1,none⟩=some (.slice A1 es'.length n1):=(hbo _).trans (hu 1 _ rfl)
     have e2:wr.cell? ⟨b,off+k*3+2,none⟩=some (.slice A2 ks'.length n2):=(hbo _).trans (hu 2 _ rfl)
     have z1:wr.cell? ⟨w.heap.size,1,none⟩=some (.slice (some ⟨b,off,none⟩) ks.length m):=by rw[hb.cell (p:=⟨w.heap.size,1,none⟩) (by simp)];simp
     have HO:=hid hbo
     clear hu hbo
     go_upto_region 13 with (fail)
     have hrd:Hid (∀ w',Below (wr.heap.size+1) (wr.alloc (.cells #[.string key,.slice A1 es'.length n1,.slice A2 ks'.length n2] 106)) w'->(Tr.mk es' ks').rd w' w'.heap.size (.slice A1 es'.length n1) (.slice A2 ks'.length n2)):=fun w' hb'=>by
      have h1:=hb'.size
      simp only[World.size_alloc]at h1
      exact Qi ((hB0.alloc (by omega) _).trans (hb'.mono (by omega))) (by omega) _ _ _ hrd0
     have f0:∀ p:Far (wr.heap.size+1) (wr.alloc (.cells #[.string key,.slice A1 es'.length n1,.slice A2 ks'.length n2] 106)),p.w'.cell? ⟨wr.heap.size,0,none⟩=some (.string key):=Qh (by simp) (by omega)
     have f1:∀ p:Far (wr.heap.size+1) (wr.alloc (.cells #[.string key,.slice A1 es'.length n1,.slice A2 ks'.length n2] 106)),p.w'.cell? ⟨wr.heap.size,1,none⟩=some (.slice A1 es'.length n1):=Qh (by simp) (by omega)
     have f2:∀ p:Far (wr.heap.size+1) (wr.alloc (.cells #[.string key,.slice A1 es'.length n1,.slice A2 ks'.length n2] 106)),p.w'.cell? ⟨wr.heap.size,2,none⟩=some (.slice A2 ks'.length n2):=Qh (by simp) (by omega)
     have g1:∀ p:Far (wr.heap.size+1) (wr.alloc (.cells #[.string key,.slice A1 es'.length n1,.slice A2 ks'.length n2] 106)),p.w'.cell? ⟨w.heap.size,1,none⟩=some (.slice (some ⟨b,off,none⟩) ks.length m):=Qh (by
      rw[World.cell?_alloc_lt _ _ _ (by exact hsz)];exact z1) (by omega)
     have hprev:∃ q:ByteArray,(0<k->prevK ks k=some q/\(∀ p:Far (wr.heap.size+1) (wr.alloc (.cells #[.string key,.slice A1 es'.length n1,.slice A2 ks'.length n2] 106)),p.w'.cell? ⟨b,off+(k-1)*3,none⟩=some (.string q))):=by
      by_cases h0:0<k
      ·obtain⟨y,hy⟩:∃ y,ks[k-1]?=some y:=⟨_,List.getElem?_eq_getElem (by omega)⟩
       obtain⟨cs,⟨_,_,rfl,_⟩,_,hu⟩:=hc (k-1) _ hy
       refine⟨y.1,fun _=>⟨by rw[prevK,if_neg (by omega),hy];rfl,fun p=>Qh ?_ (by omega) p⟩⟩
       rw[World.cell?_alloc_lt _ _ _ (by show b<wr.heap.size;omega)];exact (HO.out _).trans (hu 0 _ rfl)
      ·exact⟨key,fun h=>absurd h h0⟩
     obtain⟨q,hprev⟩:=hprev
     have HR:Hid (Tr.rightL none ks deep=(keyB key&&okK (prevK ks k) key&&!(Tr.mk es' ks').empty&&(Tr.mk es' ks').right (deep-1)&&Tr.rightL (prevK ks (k+1)) (ks.drop (k+1)) deep)):=by
      have:=hrel.out
      rw[QM hx,Q6]at this
      rw[Vd hx];exact this.symm
     have HX:Hid (ks[k]?=some (key,.mk es' ks')):=hx
     have hemp:(Tr.mk es' ks').empty=(((es'.length:Int)+(ks'.length:Int))==0):=by
      rw[Bool.eq_iff_iff];simp[Tr.empty];constructor
      ·rintro⟨rfl,rfl⟩;simp
      ·intro h;exact⟨List.eq_nil_of_length_eq_zero (by omega),List.eq_nil_of_length_eq_zero (by omega)⟩
     have HM:=hid hemp
     have hsum:IntKind.i64.wrap ((es'.length:Int)+(ks'.length:Int))=(es'.length:Int)+(ks'.length:Int):=IntWalk.i64_in _ (by omega)
     clear hc hrel c3 hx e0 e1 e2 hrd0 hemp z1 d3
     rcases h1:keyB key
     ·go_upto_region 13 with (fail)
      refine Qd (wr.heap.size+1) (by kernel_rfl) (by kernel_rfl) ?_
      repeat (go_big_quiet_step (first|(go_at_call 110;exact Calls.far_of (by simp) (Q2 key _))|(go_at_call 62;exact Calls.far_all (by simp) (fun w' hb'=>(ih key (.mk es' ks') hmem (deep-1) w' _ _ (hrd.out w' hb') (by omega) (by omega))))))
      refine wpQuiet_nil ?_
      intro wq hbq
      have hbw:Below (w.heap.size+1) (w.alloc (.cells #[.slice A0 es.length n0,.slice (some ⟨b,off,none⟩) ks.length m] 25)) wq:=(hb.alloc (by omega) _).trans (hbq.mono (by omega))
      go_wp2_with fail
      go_ret
      refine⟨Qf ?_,((Below.refl _ w).alloc (Nat.le_refl _) _).trans (hbw.mono (by omega))⟩
      rw[Tr.right,HR.out,hE.out]
      rw[h1];simp
     rcases Nat.eq_zero_or_pos k with h0|h0
     ·have t0:decide ((0:Int)<(k:Int))=false:=by simp;omega
      have t0':decide (0<k)=false:=by simp;omega
      have hpk:Hid (okK (prevK ks k) key=true):=by rw[show prevK ks k=none by (rw[h0];rfl)];rfl
      clear h0 hprev
      rcases h6:(((es'.length:Int)+(ks'.length:Int))==0)
      case true=>
       have h6':(es'.length:Int)+(ks'.length:Int)=0:=by simpa using h6
       go_upto_region 13 with (fail)
       refine Qd (wr.heap.size+1) (by kernel_rfl) (by kernel_rfl) ?_
       repeat (go_big_quiet_step (first|(go_at_call 110;exact Calls.far_of (by simp) (Q2 key _))|(go_at_call 62;exact Calls.far_all (by simp) (fun w' hb'=>(ih key (.mk es' ks') hmem (deep-1) w' _ _ (hrd.out w' hb') (by omega) (by omega))))))
       refine wpQuiet_nil ?_
       intro wq hbq
       have hbw:Below (w.heap.size+1) (w.alloc (.cells #[.slice A0 es.length n0,.slice (some ⟨b,off,none⟩) ks.length m] 25)) wq:=(hb.alloc (by omega) _).trans (hbq.mono (by omega))
       go_wp2_with fail
       go_ret
       refine⟨Qf ?_,((Below.refl _ w).alloc (Nat.le_refl _) _).trans (hbw.mono (by omega))⟩
       rw[Tr.right,HR.out,hE.out]
       rw[HM.out,h6];simp
      rcases h7:(Tr.mk es' ks').right (deep-1)
      ·go_upto_region 13 with (fail)
       refine Qd (wr.heap.size+1) (by kernel_rfl) (by kernel_rfl) ?_
       repeat (go_big_quiet_step (first|(go_at_call 110;exact Calls.far_of (by simp) (Q2 key _))|(go_at_call 62;exact Calls.far_all (by simp) (fun w' hb'=>(ih key (.mk es' ks') hmem (deep-1) w' _ _ (hrd.out w' hb') (by omega) (by omega))))))
       refine wpQuiet_nil ?_
       intro wq hbq
       have hbw:Below (w.heap.size+1) (w.alloc (.cells #[.slice A0 es.length n0,.slice (some ⟨b,off,none⟩) ks.length m] 25)) wq:=(hb.alloc (by omega) _).trans (hbq.mono (by omega))
       go_wp2_with fail
       go_ret
       refine⟨Qf ?_,((Below.refl _ w).alloc (Nat.le_refl _) _).trans (hbw.mono (by omega))⟩
       rw[Tr.right,HR.out,hE.out]
       rw[h7];simp
      ·go_upto_region 13 with (fail)
       refine Qd (wr.heap.size+1) (by kernel_rfl) (by kernel_rfl) ?_
       repeat (go_big_quiet_step (first|(go_at_call 110;exact Calls.far_of (by simp) (Q2 key _))|(go_at_call 62;exact Calls.far_all (by simp) (fun w' hb'=>(ih key (.mk es' ks') hmem (deep-1) w' _ _ (hrd.out w' hb') (by omega) (by omega))))))
       refine wpQuiet_nil ?_
       intro wq hbq
       have hbw:Below (w.heap.size+1) (w.alloc (.cells #[.slice A0 es.length n0,.slice (some ⟨b,off,none⟩) ks.length m] 25)) wq:=(hb.alloc (by omega) _).trans (hbq.mono (by omega))
       go_wp2_with fail
       go_roundw
       case rel=>
        refine⟨k+1,by omega,by go_num,?_,hbw⟩
        show _=_
        rw[HR.out,h1]
        rw[hpk.out,HM.out,h6,h7];simp
       case measure=>simp[intOf];omega
     ·obtain⟨hq,q0⟩:=hprev h0
      have hwk:IntKind.i64.wrap ((k:Int)-1)=(k:Int)-1:=IntWalk.i64_in _ (by omega)
      rcases t5:Op.bytesLess q.toList key.toList
      ·have hpk:Hid (okK (prevK ks k) key=false):=by rw[hq];exact t5
       clear hprev hq
       go_upto_region 13 with (fail)
       refine Qd (wr.heap.size+1) (by kernel_rfl) (by kernel_rfl) ?_
       repeat (go_big_quiet_step (first|(go_at_call 110;exact Calls.far_of (by simp) (Q2 key _))|(go_at_call 62;exact Calls.far_all (by simp) (fun w' hb'=>(ih key (.mk es' ks') hmem (deep-1) w' _ _ (hrd.out w' hb') (by omega) (by omega))))))
       refine wpQuiet_nil ?_
       intro wq hbq
       have hbw:Below (w.heap.size+1) (w.alloc (.cells #[.slice A0 es.length n0,.slice (some ⟨b,off,none⟩) ks.length m] 25)) wq:=(hb.alloc (by omega) _).trans (hbq.mono (by omega))
       go_wp2_with fail
       go_ret
       refine⟨Qf ?_,((Below.refl _ w).alloc (Nat.le_refl _) _).trans (hbw.mono (by omega))⟩
       rw[Tr.right,HR.out,hE.out]
       rw[h1,hpk.out];simp
      ·have hpk:Hid (okK (prevK ks k) key=true):=by rw[hq];exact t5
       clear hprev hq
       rcases h6:(((es'.length:Int)+(ks'.length:Int))==0)
       case true=>
        have h6':(es'.length:Int)+(ks'.length:Int)=0:=by simpa using h6
        go_upto_region 13 with (fail)
        refine Qd (wr.heap.size+1) (by kernel_rfl) (by kernel_rfl) ?_
        repeat (go_big_quiet_step (first|(go_at_call 110;exact Calls.far_of (by simp) (Q2 key _))|(go_at_call 62;exact Calls.far_all (by simp) (fun w' hb'=>(ih key (.mk es' ks') hmem (deep-1) w' _ _ (hrd.out w' hb') (by omega) (by omega))))))
        refine wpQuiet_nil ?_
        intro wq hbq
        have hbw:Below (w.heap.size+1) (w.alloc (.cells #[.slice A0 es.length n0,.slice (some ⟨b,off,none⟩) ks.length m] 25)) wq:=(hb.alloc (by omega) _).trans (hbq.mono (by omega))
        go_wp2_with fail
        go_ret
        refine⟨Qf ?_,((Below.refl _ w).alloc (Nat.le_refl _) _).trans (hbw.mono (by omega))⟩
        rw[Tr.right,HR.out,hE.out]
        rw[HM.out,h6];simp
       rcases h7:(Tr.mk es' ks').right (deep-1)
       ·go_upto_region 13 with (fail)
        refine Qd (wr.heap.size+1) (by kernel_rfl) (by kernel_rfl) ?_
        repeat (go_big_quiet_step (first|(go_at_call 110;exact Calls.far_of (by simp) (Q2 key _))|(go_at_call 62;exact Calls.far_all (by simp) (fun w' hb'=>(ih key (.mk es' ks') hmem (deep-1) w' _ _ (hrd.out w' hb') (by omega) (by omega))))))
        refine wpQuiet_nil ?_
        intro wq hbq
        have hbw:Below (w.heap.size+1) (w.alloc (.cells #[.slice A0 es.length n0,.slice (some ⟨b,off,none⟩) ks.length m] 25)) wq:=(hb.alloc (by omega) _).trans (hbq.mono (by omega))
        go_wp2_with fail
        go_ret
        refine⟨Qf ?_,((Below.refl _ w).alloc (Nat.le_refl _) _).trans (hbw.mono (by omega))⟩
        rw[Tr.right,HR.out,hE.out]
        rw[h7];simp
       ·go_upto_region 13 with (fail)
        refine Qd (wr.heap.size+1) (by kernel_rfl) (by kernel_rfl) ?_
        repeat (go_big_quiet_step (first|(go_at_call 110;exact Calls.far_of (by simp) (Q2 key _))|(go_at_call 62;exact Calls.far_all (by simp) (fun w' hb'=>(ih key (.mk es' ks') hmem (deep-1) w' _ _ (hrd.out w' hb') (by omega) (by omega))))))
        refine wpQuiet_nil ?_
        intro wq hbq
        have hbw:Below (w.heap.size+1) (w.alloc (.cells #[.slice A0 es.length n0,.slice (some ⟨b,off,none⟩) ks.length m] 25)) wq:=(hb.alloc (by omega) _).trans (hbq.mono (by omega))
        go_wp2_with fail
        go_roundw
        case rel=>
         refine⟨k+1,by omega,by go_num,?_,hbw⟩
         show _=_
         rw[HR.out,h1]
         rw[hpk.out,HM.out,h6,h7];simp
        case measure=>simp[intOf];omega
    ·obtain rfl:k=ks.length:=by omega
     have hr:=hrel.out
     go_wp2_with fail
     go_ret
     refine⟨Qf ?_,hB0⟩
     rw[Tr.right,←hr,hE.out]
     simp[Tr.rightL];omega
theorem QP (t:Tr)(w:World)(ve vk:Value)(h:t.rd w w.heap.size ve vk) :
  Calls Tryz.prog 23 #[.agg #[ve,vk]] w fun e w'=>e=.returned (.bool (t.right 5))/\Below w.heap.size w w':=by
 obtain⟨A,n,A',m,rfl,rfl⟩:=Qk h
 have hb0:Below w.heap.size w (w.alloc (.cells #[.slice A t.es.length n,.slice A' t.ks.length m] 25)):=(Below.refl _ w).alloc (Nat.le_refl _) _
 go_enter Tryz.func23,Tryz.ntmps23
 go_wp2_with (go_at_call 62;refine (qQ6 t 5 _ _ _ (Qi hb0 (by simp) _ _ _ h) (by omega) (by omega)).mono ?_;rintro e w1 ⟨rfl,hb1⟩)
 go_ret
 exact⟨rfl,hb0.trans (hb1.mono (by simp))⟩
theorem qQ7 (t:Tr)(w:World)(ve vk:Value)(n:Int)(h:t.rd w w.heap.size ve vk)(h0:0<=n)(h1:n<=1000) :
  Calls Tryz.prog 61 #[.agg #[ve,vk],.int .i64 n] w fun e w'=>e=.returned (.bool (decide (0<=t.room n 8)))/\Below w.heap.size w w':=by
 obtain⟨A,n',A',m,rfl,rfl⟩:=Qk h
 have hb0:Below w.heap.size w (w.alloc (.cells #[.slice A t.es.length n',.slice A' t.ks.length m] 25)):=(Below.refl _ w).alloc (Nat.le_refl _) _
 go_enter Tryz.func61,Tryz.ntmps61
 go_wp2_with (go_at_call 108;refine (zZg t n 8 _ _ _ (Qi hb0 (by simp) _ _ _ h) h0 h1 (by omega) (by omega)).mono ?_;rintro e w1 ⟨rfl,hb1⟩)
 go_ret
 exact⟨rfl,hb0.trans (hb1.mono (by simp))⟩
mutual
def Tr.dep:Tr->Nat|.mk _ ks=>Tr.depL ks+1
def Tr.depL:List (ByteArray×Tr)->Nat|[]=>0|(_,t) :: ks=>max t.dep (Tr.depL ks)
end
theorem qXx:∀ {ks:List Kd}{k:ByteArray}{t:Tr},(k,t)∈ks->t.dep<=Tr.depL ks
 |(k',t') :: ks,k,t,h=>by
  rw[Tr.depL]
  rcases List.mem_cons.1 h with e|e
  ·cases e;exact Nat.le_max_left _ _
  ·exact Nat.le_trans (qXx e) (Nat.le_max_right _ _)
theorem qZc:∀ {ks:List Kd}{n:Nat}{k:ByteArray}{t:Tr},ks[n]?=some (k,t)->Tr.depL (ks.take (n+1))=max (Tr.depL (ks.take n)) t.dep
 |(k',t') :: ks,0,k,t,h=>by simp at h;obtain⟨rfl,rfl⟩:=h;simp[Tr.depL]
 |(k',t') :: ks,n+1,k,t,h=>by
  simp only[List.take_succ_cons]
  rw[Tr.depL,Tr.depL,qZc (ks:=ks) (n:=n) (by simpa using h),Nat.max_assoc]
theorem qZd (ks:List Kd):∀ n,Tr.depL (ks.take n)<=Tr.depL ks:=by
 induction ks with
 |nil=>intro n;simp
 |cons x ks ih=>
  obtain⟨k,t⟩:=x
  intro n
  cases n with
  |zero=>simp[Tr.depL]
  |succ n=>simp only[List.take_succ_cons];rw[Tr.depL,Tr.depL];have:=ih n;omega
theorem zYh (a b:Nat):max (a:Int) (b:Int)=((max a b:Nat):Int):=by omega
theorem qWr (t:Tr):∀ (w:World) (ve vk:Value),t.rd w w.heap.size ve vk->t.dep<=1000 ->
  Calls Tryz.prog 208 #[.agg #[ve,vk]] w fun e w'=>e=.returned (.int .i64 (t.dep:Nat))/\Below w.heap.size w w':=by
 induction t using Tr.ind with
 |h es ks ih=>
 intro w ve vk h hN
 rw[Qz]at h
 obtain⟨⟨A1,n,rfl,b1,b2,b3⟩,⟨A2,m,rfl,c1,c2,c3⟩⟩:=h
 clear b3
 unfold Big at b2 c2
 rw[Tr.dep]at hN
 go_enter Tryz.func208,Tryz.ntmps208
 go_wp2_with fail
 go_loopw [3,9] (fun v i wr=>∃ k:Nat,k<=ks.length/\i=.int .i64 k/\v=.int .i64 (Tr.depL (ks.take k):Nat) /\
   Below (w.heap.size+1) (w.alloc (.cells #[.slice A1 es.length n,.slice A2 ks.length m] 25)) wr) (fun _ i _=>ks.length-(intOf i).toNat)
 case atStart=>exact⟨0,Nat.zero_le _,rfl,by simp[Tr.depL],Below.refl _ _⟩
 case round=>
  obtain⟨k,hk,rfl,rfl,hb⟩:=hrel
  have hsz:=hb.size
  simp only[World.size_alloc]at hsz
  have hdk:=qZd ks k
  by_cases hlt:k<ks.length
  ·obtain⟨⟨key,t⟩,hx⟩:∃ x,ks[k]?=some x:=⟨_,List.getElem?_eq_getElem hlt⟩
   obtain⟨b,off,rfl,hbB,hc⟩:=c3 (by rintro rfl;simp at hlt)
   obtain⟨cs,⟨ve',vk',rfl,hkb,hrd⟩,_,hu⟩:=hc k _ hx
   obtain⟨A3,n3,A4,n4,rfl,rfl⟩:=Qk hrd
   have hbo:∀ o,wr.cell? ⟨b,o,none⟩=w.cell? ⟨b,o,none⟩:=fun o=>(hb.cell (p:=⟨b,o,none⟩) (by simp;omega)).trans (World.cell?_alloc_lt _ _ _ hbB)
   have e0:wr.cell? ⟨b,off+k*3,none⟩=some (.string key):=(hbo _).trans (hu 0 _ rfl)
   have e1:wr.cell? ⟨b,off+k*3+1,none⟩=some (.slice A3 t.es.length n3):=(hbo _).trans (hu 1 _ rfl)
   have e2:wr.cell? ⟨b,off+k*3+2,none⟩=some (.slice A4 t.ks.length n4):=(hbo _).trans (hu 2 _ rfl)
   have hmem:(key,t)∈ks:=List.mem_of_getElem? hx
   have hB0:Below w.heap.size w wr:=((Below.refl _ w).alloc (Nat.le_refl _) _).trans (hb.mono (by omega))
   have HR:Hid (∀ o,t.rd (wr.alloc o) (wr.alloc o).heap.size (.slice A3 t.es.length n3) (.slice A4 t.ks.length n4)):=fun o=>Qi (hB0.alloc (by omega) _) (by simp;omega) _ _ _ hrd
   have HX:=hid (qZc hx)
   have hdt:t.dep<=1000:=by have:=qXx hmem;omega
   clear hu hbo hx hc c3 hrd
   go_wp2_with (go_at_call 208;go_loud (refine (ih key t hmem _ _ _ (HR.out _) hdt).mono ?_);rintro e w2 ⟨rfl,hb2⟩;have hs2:=hb2.size;simp only[World.size_alloc]at hs2)
   go_roundw
   case rel=>
    refine⟨k+1,by omega,by go_num,by (rw[HX.out,←zYh]);try (congr 1;first|omega|(split<;>omega)),(hb.alloc (by omega) _).trans (hb2.mono (by simp;omega))⟩
   case measure=>simp[intOf];omega
  ·obtain rfl:k=ks.length:=by omega
   rw[List.take_of_length_le (Nat.le_refl _)]at hdk ⊢
   go_wp2_with fail
   go_ret
   exact⟨by rw[Tr.dep];go_num,((Below.refl _ w).alloc (Nat.le_refl _) _).trans (hb.mono (by omega))⟩
mutual
theorem room_sz:∀ (t:Tr) (left deep:Int),0<=t.room left deep->(t.sz:Int)+t.room left deep<=left
 |.mk es ks,left,deep,h=>by
  rw[Tr.room]at h ⊢
  have:=roomL_sz ks _ deep h
  rw[Tr.sz]
  push_cast
  omega
theorem roomL_sz:∀ (ks:List (ByteArray×Tr)) (left deep:Int),0<=Tr.roomL ks left deep->(Tr.szL ks:Int)-ks.length+Tr.roomL ks left deep<=left
 |[],left,deep,h=>by rw[Tr.roomL]at h ⊢;simp[Tr.szL]
 |(k,t) :: ks,left,deep,h=>by
  rw[Tr.roomL]at h ⊢
  split at h
  ·omega
  ·rename_i hc
   rw[if_neg hc]
   have h1:=roomL_sz ks _ deep h
   have hs:=VS ks
   by_cases h2:0<=t.room left (deep-1)
   ·have h3:=room_sz t left (deep-1) h2
    rw[Tr.szL];simp only[List.length_cons];push_cast;omega
   ·omega
end
def smlB (t:Tr)(n:Int):Bool:=decide (0<=t.room n 8)
theorem zJq {t:Tr}{n:Int}(h:smlB t n=true):(t.sz:Int)<=n:=by
 have h:=of_decide_eq_true h
 have:=room_sz t n 8 h
 omega
def sumE (es:List En):Int:=es.foldl (fun s e=>wrap64 (s+e.v)) 0
theorem qZx {es:List En}{k:Nat}{x:En}(h:es[k]?=some x):sumE (es.take (k+1))=wrap64 (sumE (es.take k)+x.v):=by
 unfold sumE;rw[List.take_add_one,h,List.foldl_append];rfl
theorem qVo (t:Tr)(w:World)(ve vk:Value)(h:t.rd w w.heap.size ve vk) :
  Calls Tryz.prog 25 #[.agg #[ve,vk]] w fun e w'=>e=.returned (.int .i64 (sumE t.es))/\Below w.heap.size w w':=by
 obtain⟨es,ks⟩:=t
 rw[Qz]at h
 obtain⟨⟨A0,n0,rfl,d1,d2,d3⟩,⟨A,m,rfl,c1,c2,c3⟩⟩:=h
 unfold Big at c2 d2
 have hb0:Below w.heap.size w (w.alloc (.cells #[.slice A0 es.length n0,.slice A ks.length m] 25)):=(Below.refl _ w).alloc (Nat.le_refl _) _
 go_enter Tryz.func25,Tryz.ntmps25
 go_wp2_with fail
 go_loopw [3,8] (fun s i wr=>∃ k:Nat,k<=es.length/\i=.int .i64 k/\s=.int .i64 (sumE (es.take k))/\wr=w.alloc (.cells #[.slice A0 es.length n0,.slice A ks.length m] 25)) (fun _ i _=>es.length-(intOf i).toNat)
 case atStart=>exact⟨0,Nat.zero_le _,rfl,rfl,rfl⟩
 case round=>
  obtain⟨k,hk,rfl,rfl,rfl⟩:=hrel
  by_cases hlt:k<es.length
  ·obtain⟨x,hx⟩:∃ x,es[k]?=some x:=⟨_,List.getElem?_eq_getElem hlt⟩
   obtain⟨b,off,rfl,hbB,hc⟩:=d3 (by rintro rfl;simp at hlt)
   obtain⟨cs,⟨rfl,hok⟩,_,hu⟩:=hc k _ hx
   have e3:(w.alloc (.cells #[.slice (some ⟨b,off,none⟩) es.length n0,.slice A ks.length m] 25)).cell? ⟨b,off+k*4+3,none⟩=some (.int .i64 x.v):=(hb0.cell hbB).trans (hu 3 _ rfl)
   have HX:Hid (sumE (es.take (k+1))=wrap64 (sumE (es.take k)+x.v)):=qZx hx
   generalize sumE (es.take k)=s at *
   clear hu hc d3 hx hb0
   go_wp2_with fail
   go_roundw
   case rel=>exact⟨k+1,by omega,by go_num,by rw[HX.out]<;>rfl,trivial⟩
   case measure=>simp[intOf];omega
  ·obtain rfl:k=es.length:=by omega
   rw[List.take_of_length_le (Nat.le_refl _)]
   go_wp2_with fail
   go_ret
   exact⟨rfl,hb0⟩
def valT (t:Tr):Int:=if t.right 5 then sumE t.es else 0
theorem qVp (t:Tr)(w:World)(ve vk:Value)(h:t.rd w w.heap.size ve vk) :
  Calls Tryz.prog 29 #[.agg #[ve,vk]] w fun e w'=>e=.returned (.int .i64 (valT t))/\Below w.heap.size w w':=by
 have HC:Hid (∀ w',Below w.heap.size w w'->t.rd w' w'.heap.size ve vk):=fun w' hb=>Qi hb hb.size _ _ _ h
 obtain⟨es,ks⟩:=t
 rw[Qz]at h
 obtain⟨⟨A0,n0,rfl,d1,d2,d3⟩,⟨A,m,rfl,_,_,_⟩⟩:=h
 unfold Big at d2
 have hb0:Below w.heap.size w (w.alloc (.cells #[.slice A0 es.length n0,.slice A ks.length m] 25)):=(Below.refl _ w).alloc (Nat.le_refl _) _
 go_enter Tryz.func29,Tryz.ntmps29
 go_wp2_with fail
 refine (QJ (.mk es ks) _ _ _ (HC.out _ hb0)).mono ?_
 rintro e w1 ⟨rfl,hb1⟩
 have hs1:=hb1.size
 simp only[World.size_alloc]at hs1
 have hB1:Below w.heap.size w w1:=hb0.trans (hb1.mono (by simp))
 have c0:w1.cell? ⟨w.heap.size,0,none⟩=some (.slice A0 es.length n0):=by rw[hb1.cell (p:=⟨w.heap.size,0,none⟩) (by simp)];simp
 cases hr:Tr.right (.mk es ks) 5
 ·have HR:Hid (valT (.mk es ks)=0):=by unfold Hid valT;rw[hr];rfl
  clear hr hb1 hb0 d3
  go_wp2_with fail
  go_ret
  exact⟨Qn HR.out.symm,hB1⟩
 ·have HR:Hid (valT (.mk es ks)=sumE es):=by unfold Hid valT;rw[hr];rfl
  clear hr hb1 hb0
  go_wp2_with fail
  go_loopw [3,11] (fun s i wr=>∃ k:Nat,k<=es.length/\i=.int .i64 k/\s=.int .i64 (sumE (es.take k))/\Below w.heap.size w wr) (fun _ i _=>es.length-(intOf i).toNat)
  case atStart=>exact⟨0,Nat.zero_le _,rfl,rfl,hB1⟩
  case round=>
   obtain⟨k,hk,rfl,rfl,hb⟩:=hrel
   have hsz:=hb.size
   by_cases hlt:k<es.length
   ·obtain⟨x,hx⟩:∃ x,es[k]?=some x:=⟨_,List.getElem?_eq_getElem hlt⟩
    obtain⟨b,off,rfl,hbB,hc⟩:=d3 (by rintro rfl;simp at hlt)
    obtain⟨cs,⟨rfl,hok⟩,_,hu⟩:=hc k _ hx
    have e0:wr.cell? ⟨b,off+k*4,none⟩=some (.int .i64 x.dc):=(hb.cell hbB).trans (hu 0 _ rfl)
    have e1:wr.cell? ⟨b,off+k*4+1,none⟩=some (.int .i64 x.n):=(hb.cell hbB).trans (hu 1 _ rfl)
    have e2:wr.cell? ⟨b,off+k*4+2,none⟩=some (.string x.s):=(hb.cell hbB).trans (hu 2 _ rfl)
    have e3:wr.cell? ⟨b,off+k*4+3,none⟩=some (.int .i64 x.v):=(hb.cell hbB).trans (hu 3 _ rfl)
    have HX:Hid (sumE (es.take (k+1))=wrap64 (sumE (es.take k)+x.v)):=qZx hx
    generalize sumE (es.take k)=s at *
    clear hu hc d3 hx hok
    go_wp2_with fail
    go_roundw
    case rel=>exact⟨k+1,by omega,by go_num,by rw[HX.out]<;>rfl,hb.alloc hsz _⟩
    case measure=>simp[intOf];omega
   ·obtain rfl:k=es.length:=by omega
    rw[List.take_of_length_le (Nat.le_refl _)]
    go_wp2_with fail
    go_ret
    exact⟨Qn HR.out.symm,hb⟩
theorem qV1:Tryz.prog.eqGuardType Tryz.prog.depth 45=false:=by kernel_rfl
theorem qKp:Tryz.prog.eqGuardType Tryz.prog.depth 92=false:=by kernel_rfl
theorem zQ7:Tryz.prog.eqGuardType Tryz.prog.depth 52=false:=by kernel_rfl
theorem zX7 (x y:Sp)(w:World):(binOp .neq 45 (.agg #[.int .i64 x.dc,.int .i64 x.fr,.int .i64 x.hi]) (.agg #[.int .i64 y.dc,.int .i64 y.fr,.int .i64 y.hi])).run Tryz.prog w=.ok (.bool (!decide (x=y))) w:=by
 have u3:=Tryz.underlying3
 have u2:=Tryz.underlying2
 have hS:Tryz.prog.underlying 45=some (.struct (Tryz.prog.fieldsOf 45)):=by kernel_rfl
 have hp:Tryz.prog.stoodInHeld 45=false:=by kernel_rfl
 rw[run_neq_struct,show (10000:Nat)=9999+1 from rfl,run_equalIn_agg w 9999 45 _ _ hS hp]
 simp only[Program.fieldsOf,Tryz.underlying45]
 go_simp
 obtain⟨a,b,c⟩:=x;obtain⟨d,e,f⟩:=y
 by_cases h1:a=d<;>by_cases h2:b=e<;>by_cases h3:c=f<;>simp[h1,h2,h3]
theorem QN (a b:ByteArray):a.toList=b.toList↔a=b:=by
 rw[ByteArray.toList_eq,ByteArray.toList_eq]
 obtain⟨⟨x⟩⟩:=a;obtain⟨⟨y⟩⟩:=b
 simp
theorem zQ8 (x y:En)(w:World):(binOp .neq 92 (.agg #[.int .i64 x.dc,.int .i64 x.n,.string x.s,.int .i64 x.v]) (.agg #[.int .i64 y.dc,.int .i64 y.n,.string y.s,.int .i64 y.v])).run Tryz.prog w=.ok (.bool (!decide (x=y))) w:=by
 have u3:=Tryz.underlying3
 have u2:=Tryz.underlying2
 have u9:=Tryz.underlying9
 have u27:=Tryz.underlying52
 have hS:Tryz.prog.underlying 92=some (.struct (Tryz.prog.fieldsOf 92)):=by kernel_rfl
 have hp:Tryz.prog.stoodInHeld 92=false:=by kernel_rfl
 have hS2:Tryz.prog.underlying 52=some (.struct (Tryz.prog.fieldsOf 52)):=by kernel_rfl
 have hp2:Tryz.prog.stoodInHeld 52=false:=by kernel_rfl
 rw[run_neq_struct,show (10000:Nat)=9999+1 from rfl,run_equalIn_agg w 9999 92 _ _ hS hp]
 simp only[Program.fieldsOf,Tryz.underlying92]
 go_simp
 have hq:=fun (a b c d:Int) (w:World)=>run_equalIn_agg (P:=Tryz.prog) w 9998 52 #[.int .i64 a,.int .i64 b] #[.int .i64 c,.int .i64 d] hS2 hp2
 try simp only[hq,Program.fieldsOf,u27]
 go_simp
 obtain⟨a,b,s,c⟩:=x;obtain⟨d,e,u,f⟩:=y
 by_cases h1:a=d<;>by_cases h2:b=e<;>by_cases h3:c=f<;>by_cases h4:s=u<;>simp[h1,h2,h3,h4,QN]
theorem ZB {α:Type}{xs ys:List α}{k:Nat}{x y:α}(hx:xs[k]?=some x)(hy:ys[k]?=some y)(h:xs.take k=ys.take k):xs.take (k+1)=ys.take (k+1)↔x=y:=by
 rw[List.take_add_one,List.take_add_one,hx,hy,h]
 simp
theorem qXl (a b:List Sp)(va vb:Value)(w:World)(B:Nat)(ha:SlP w B 3 SpE va a)(hb:SlP w B 3 SpE vb b) :
  Calls Tryz.prog 54 #[va,vb] w fun e w'=>e=.returned (.bool (decide (a=b)))/\∃ n,w'=w.drewN n:=by
 obtain⟨A1,n1,rfl,b1,b2,b3⟩:=ha
 obtain⟨A2,n2,rfl,c1,c2,c3⟩:=hb
 unfold Big at b2 c2
 by_cases hl:a.length=b.length
 ·have hl':((a.length:Int) != (b.length:Int))=false:=by simp[hl]
  have HL:=hid hl
  clear hl
  have gg:=qV1
  have nn:=zX7
  go_enter Tryz.func54,Tryz.ntmps54
  go_wp2_with fail
  go_loopw [13] (fun i wr=>∃ k:Nat,k<=a.length/\i=.int .i64 k/\Hid (a.take k=b.take k)/\∃ n,wr=w.drewN n) (fun i _=>a.length-(intOf i).toNat)
  case atStart=>exact⟨0,Nat.zero_le _,rfl,rfl,0,rfl⟩
  case round=>
   obtain⟨k,hk,rfl,hrel,q,rfl⟩:=hrel
   by_cases hlt:k<a.length
   ·have hlt2:k<b.length:=by have:=HL.out;omega
    obtain⟨x,hx⟩:∃ x,a[k]?=some x:=⟨_,List.getElem?_eq_getElem hlt⟩
    obtain⟨y,hy⟩:∃ y,b[k]?=some y:=⟨_,List.getElem?_eq_getElem hlt2⟩
    obtain⟨ba,oa,rfl,hbA,hc⟩:=b3 (by rintro rfl;simp at hlt)
    obtain⟨bb,ob,rfl,hbB,hd⟩:=c3 (by rintro rfl;simp at hlt2)
    obtain⟨cs,⟨rfl,hok⟩,_,hu⟩:=hc k _ hx
    obtain⟨ds,⟨rfl,hok2⟩,_,hv⟩:=hd k _ hy
    have e0:w.cell? ⟨ba,oa+k*3,none⟩=some (.int .i64 x.dc):=hu 0 _ rfl
    have e1:w.cell? ⟨ba,oa+k*3+1,none⟩=some (.int .i64 x.fr):=hu 1 _ rfl
    have e2:w.cell? ⟨ba,oa+k*3+2,none⟩=some (.int .i64 x.hi):=hu 2 _ rfl
    have g0:w.cell? ⟨bb,ob+k*3,none⟩=some (.int .i64 y.dc):=hv 0 _ rfl
    have g1:w.cell? ⟨bb,ob+k*3+1,none⟩=some (.int .i64 y.fr):=hv 1 _ rfl
    have g2:w.cell? ⟨bb,ob+k*3+2,none⟩=some (.int .i64 y.hi):=hv 2 _ rfl
    have HT:=hid (ZB hx hy hrel.out)
    have HXY:Hid (a=b->x=y):=fun e=>by subst e;rw[hx]at hy;exact Option.some.inj hy
    have hi1:((k:Int))<(a.length:Int):=by omega
    have hi2:((k:Int))<(b.length:Int):=by omega
    clear hu hv hc hd b3 c3 hx hy hok hok2
    rcases hxy:decide (x=y)
    ·have hne:x≠y:=by simpa using hxy
     go_wp2_with fail
     go_quiet (fail)
     go_wp2_with fail
     go_ret
     exact⟨Qf (by simpa using fun e=>hne (HXY.out e)),q+nq,by first|rfl|exact World.drewN_drewN _ _ _⟩
    ·have hE:=hid (of_decide_eq_true hxy)
     go_wp2_with fail
     go_quiet (fail)
     go_wp2_with fail
     go_roundw
     case rel=>exact⟨k+1,by omega,by go_num,HT.out.2 hE.out,q+nq,by first|rfl|exact World.drewN_drewN _ _ _⟩
     case measure=>simp[intOf];omega
   ·obtain rfl:k=a.length:=by omega
    have HR:=hid hrel.out
    clear hrel
    go_wp2_with fail
    go_ret
    refine⟨Qf ?_,q,rfl⟩
    have h1:=HR.out
    rw[List.take_of_length_le (Nat.le_refl _),List.take_of_length_le (by rw[HL.out];exact Nat.le_refl _)]at h1
    simp[h1]
 ·have hl':((a.length:Int) != (b.length:Int))=true:=by simp;omega
  have HL:=hid hl
  clear hl
  go_enter Tryz.func54,Tryz.ntmps54
  go_wp2_with fail
  go_ret
  refine⟨Qf ?_,0,rfl⟩
  have:a≠b:=fun e=>HL.out (by rw[e])
  simp[this]
theorem qQn (a b:List ByteArray)(va vb:Value)(w:World)(B:Nat)(ha:SlP w B 1 StE va a)(hb:SlP w B 1 StE vb b) :
  Calls Tryz.prog 81 #[va,vb] w fun e w'=>e=.returned (.bool (decide (a=b)))/\∃ n,w'=w.drewN n:=by
 obtain⟨A1,n1,rfl,b1,b2,b3⟩:=ha
 obtain⟨A2,n2,rfl,c1,c2,c3⟩:=hb
 unfold Big at b2 c2
 by_cases hl:a.length=b.length
 ·have hl':((a.length:Int) != (b.length:Int))=false:=by simp[hl]
  have HL:=hid hl
  clear hl
  go_enter Tryz.func81,Tryz.ntmps81
  go_wp2_with fail
  go_loopw [13] (fun i wr=>∃ k:Nat,k<=a.length/\i=.int .i64 k/\Hid (a.take k=b.take k)/\∃ n,wr=w.drewN n) (fun i _=>a.length-(intOf i).toNat)
  case atStart=>exact⟨0,Nat.zero_le _,rfl,rfl,0,rfl⟩
  case round=>
   obtain⟨k,hk,rfl,hrel,q,rfl⟩:=hrel
   by_cases hlt:k<a.length
   ·have hlt2:k<b.length:=by have:=HL.out;omega
    obtain⟨x,hx⟩:∃ x,a[k]?=some x:=⟨_,List.getElem?_eq_getElem hlt⟩
    obtain⟨y,hy⟩:∃ y,b[k]?=some y:=⟨_,List.getElem?_eq_getElem hlt2⟩
    obtain⟨ba,oa,rfl,hbA,hc⟩:=b3 (by rintro rfl;simp at hlt)
    obtain⟨bb,ob,rfl,hbB,hd⟩:=c3 (by rintro rfl;simp at hlt2)
    obtain⟨cs,⟨rfl,hok⟩,_,hu⟩:=hc k _ hx
    obtain⟨ds,⟨rfl,hok2⟩,_,hv⟩:=hd k _ hy
    have e0:w.cell? ⟨ba,oa+k,none⟩=some (.string x):=by simpa using hu 0 _ rfl
    have g0:w.cell? ⟨bb,ob+k,none⟩=some (.string y):=by simpa using hv 0 _ rfl
    have HT:=hid (ZB hx hy hrel.out)
    have HXY:Hid (a=b->x=y):=fun e=>by subst e;rw[hx]at hy;exact Option.some.inj hy
    have hi1:((k:Int))<(a.length:Int):=by omega
    have hi2:((k:Int))<(b.length:Int):=by omega
    clear hu hv hc hd b3 c3 hx hy hok hok2
    rcases hxy:(x.toList==y.toList)
    ·have hne:x≠y:=fun e=>by rw[e]at hxy;simp at hxy
     have hxy2:(x.toList != y.toList)=true:=by simp[bne,hxy]
     go_wp2_with fail
     go_quiet (fail)
     go_wp2_with fail
     go_ret
     exact⟨Qf (by simpa using fun e=>hne (HXY.out e)),q+nq,by first|rfl|exact World.drewN_drewN _ _ _⟩
    ·have hE:=hid ((QN x y).1 (by simpa using hxy))
     have hxy2:(x.toList != y.toList)=false:=by simp[bne,hxy]
     go_wp2_with fail
     go_quiet (fail)
     go_wp2_with fail
     go_roundw
     case rel=>exact⟨k+1,by omega,by go_num,HT.out.2 hE.out,q+nq,by first|rfl|exact World.drewN_drewN _ _ _⟩
     case measure=>simp[intOf];omega
   ·obtain rfl:k=a.length:=by omega
    have HR:=hid hrel.out
    clear hrel
    go_wp2_with fail
    go_ret
    refine⟨Qf ?_,q,rfl⟩
    have h1:=HR.out
    rw[List.take_of_length_le (Nat.le_refl _),List.take_of_length_le (by rw[HL.out];exact Nat.le_refl _)]at h1
    simp[h1]
 ·have hl':((a.length:Int) != (b.length:Int))=true:=by simp;omega
  have HL:=hid hl
  clear hl
  go_enter Tryz.func81,Tryz.ntmps81
  go_wp2_with fail
  go_ret
  refine⟨Qf ?_,0,rfl⟩
  have:a≠b:=fun e=>HL.out (by rw[e])
  simp[this]
def Yl (key:ByteArray)(x:Lf):Option Lf:=match x.1 with|[]=>none|q :: qs=>if q=key then some (qs,x.2) else none
def Qu (l:List Lf)(key:ByteArray):List Lf:=l.filterMap (Yl key)
theorem qXm {l:List Lf}{k:Nat}{x:Lf}(h:l[k]?=some x)(key:ByteArray):Qu (l.take (k+1)) key=Qu (l.take k) key++(Yl key x).toList:=by
 unfold Qu
 rw[List.take_add_one,h,List.filterMap_append]
 cases hx:Yl key x<;>simp[hx]
theorem Ym (l:List Lf)(key:ByteArray):(Qu l key).length<=l.length:=List.length_filterMap_le _ _
theorem Jz (l:List Lf)(key:ByteArray)(okp:Nat->Prop)(vl:Value)(w:World)(h:SlP w w.heap.size 5 (LfA w (fun b=>okp b/\b<w.heap.size)) vl l)(hN:l.length<=900000) :
  Calls Tryz.prog 105 #[vl,.string key] w (RetD w 102 5 LfA okp (Qu l key)):=by
 obtain⟨A,c,rfl,l1,l2,l3⟩:=h
 unfold Big at l2
 go_enter Tryz.func105,Tryz.ntmps105
 go_wp2_with fail
 go_loopw [5,9] (fun v i wr=>∃ k:Nat,k<=l.length/\i=.int .i64 k/\OwnD wr w.heap.size 102 5 LfA (fun b=>okp b∨w.heap.size<=b) v (Qu (l.take k) key)/\Below w.heap.size w wr) (fun _ i _=>l.length-(intOf i).toNat)
 case atStart=>exact⟨0,Nat.zero_le _,rfl,OwnD.nil,Below.refl _ _⟩
 case round=>
  obtain⟨k,hk,rfl,hown,hb⟩:=hrel
  have hsz:=hb.size
  by_cases hlt:k<l.length
  ·obtain⟨⟨p,x⟩,hx⟩:∃ x,l[k]?=some x:=⟨_,List.getElem?_eq_getElem hlt⟩
   obtain⟨b,off,rfl,hbB,hc⟩:=l3 (by rintro rfl;simp at hlt)
   obtain⟨cs,⟨A7,c7,rfl,hp,hok⟩,_,hu⟩:=hc k _ hx
   have hut:=qXm hx key
   have e0:wr.cell? ⟨b,off+k*5,none⟩=some (.slice A7 p.length c7):=(hb.cell hbB).trans (hu 0 _ rfl)
   have hlen:=Ym (l.take k) key
   have HLe:Hid ((Qu (l.take k) key).length<=900000):=by unfold Hid;simp at hlen;omega
   clear hlen
   cases p with
   |nil=>
    have HX:Hid (Qu (l.take (k+1)) key=Qu (l.take k) key):=by unfold Hid;rw[hut];simp[Yl]
    simp only[List.length_nil]at e0
    clear hu hx hc l3 hok hp hut
    go_wp2_with fail
    go_roundw
    case rel=>exact⟨k+1,by omega,by go_num,by rw[HX.out];exact hown,hb⟩
    case measure=>simp[intOf];omega
   |cons q qs=>
    obtain⟨A7',c7',hv7,m1,m2,m3⟩:=hp
    simp only[Value.slice.injEq]at hv7
    obtain⟨rfl,_,rfl⟩:=hv7
    obtain⟨b7,o7,rfl,hb7,hc7⟩:=m3 (by simp)
    unfold Big at m2
    simp only[List.length_cons]at e0 m1 m2
    have hb7':b7<wr.heap.size:=by have:=hb7.2;omega
    obtain⟨cs7,⟨rfl,hq7⟩,_,hu7⟩:=hc7 0 q rfl
    have e7:wr.cell? ⟨b7,o7,none⟩=some (.string q):=(hb.cell (p:=⟨b7,o7,none⟩) hb7.2).trans (by simpa using hu7 0 _ rfl)
    have e1:wr.cell? ⟨b,off+k*5+1,none⟩=some (.int .i64 x.dc):=(hb.cell hbB).trans (hu 1 _ rfl)
    have e2:wr.cell? ⟨b,off+k*5+2,none⟩=some (.int .i64 x.n):=(hb.cell hbB).trans (hu 2 _ rfl)
    have e3:wr.cell? ⟨b,off+k*5+3,none⟩=some (.string x.s):=(hb.cell hbB).trans (hu 3 _ rfl)
    have e4:wr.cell? ⟨b,off+k*5+4,none⟩=some (.int .i64 x.v):=(hb.cell hbB).trans (hu 4 _ rfl)
    by_cases h71:c7=1
    ·subst h71
     obtain rfl:qs=[]:=List.eq_nil_of_length_eq_zero (by omega)
     simp only[List.length_nil,Nat.zero_add]at e0 m1 m2
     by_cases hqk:q=key
     ·have hqk':(q.toList==key.toList)=true:=by rw[hqk];simp
      have HX:Hid (Qu (l.take (k+1)) key=Qu (l.take k) key++[(([]:List ByteArray),x)]):=by unfold Hid;rw[hut];simp[Yl,hqk]
      have HL:Hid ((Qu (l.take k) key).length + [(([]:List ByteArray),x)].length<=Few):=by have:=HLe.out;unfold Hid Few;simp;omega
      have HS:Hid (∀ w',Below w.heap.size wr w'->w'.cell? ⟨b,off+k*5,none⟩=some (.slice (some ⟨b7,o7,none⟩) 1 1)/\w'.cell? ⟨b,off+k*5+1,none⟩=some (.int .i64 x.dc)/\w'.cell? ⟨b,off+k*5+2,none⟩=some (.int .i64 x.n)/\w'.cell? ⟨b,off+k*5+3,none⟩=some (.string x.s)/\w'.cell? ⟨b,off+k*5+4,none⟩=some (.int .i64 x.v)):=fun w' hb'=>⟨(hb'.cell hbB).trans e0,(hb'.cell hbB).trans e1,(hb'.cell hbB).trans e2,(hb'.cell hbB).trans e3,(hb'.cell hbB).trans e4⟩
      have HQ:=hid hqk
      have hsl:Hid (∀ (A:Option Addr),(([]:List ByteArray)≠[]->A=some ⟨b7,o7+1,none⟩)->∀ (cq:Nat),0<=cq->∀ (W:World),Below w.heap.size wr W->wr.heap.size<=W.heap.size->SlA W (fun b=>(okp b∨w.heap.size<=b)/\b<W.heap.size/\u5.ownBlock≠some b) 1 StE (.slice A 0 cq) ([]:List ByteArray)):=fun A hA cq hcq W hW hWs=>
       ⟨A,cq,rfl,hcq,by first|(unfold Big;omega)|simp[Big],fun hn=>⟨b7,o7+1,hA hn,⟨.inl hb7.1,by omega,fun e=>by have:=(OwnD.lt hown b7 e).1;have:=hb7.2;omega⟩,fun j s hs=>by
        obtain⟨cs,h1,h2,h3⟩:=hc7 (j+1) s hs
        refine⟨cs,h1,h2,fun i u hi=>?_⟩
        rw[←h3 i u hi]
        rw[show o7+1+j*1+i=o7+(j+1)*1+i by omega]
        exact (hW.cell (p:=⟨b7,o7+(j+1)*1+i,none⟩) hb7.2).trans (hb.cell (p:=⟨b7,o7+(j+1)*1+i,none⟩) hb7.2)⟩⟩
      clear hu hx hc l3 hut hc7 hu7 m3 hqk
      go_upto_region 6 with (fail)
      go_region_held3 (fun w'=>w'.cell? ⟨b,off+k*5,none⟩=some (.slice (some ⟨b7,o7,none⟩) 1 1)/\w'.cell? ⟨b,off+k*5+1,none⟩=some (.int .i64 x.dc)/\w'.cell? ⟨b,off+k*5+2,none⟩=some (.int .i64 x.n)/\w'.cell? ⟨b,off+k*5+3,none⟩=some (.string x.s)/\w'.cell? ⟨b,off+k*5+4,none⟩=some (.int .i64 x.v))
       (first|go_keep|exact HS.out _ hq1)
       (first|(go_loud (refine Xh rfl (.tmp 30) (.tmp 43) _ rfl LfA.mon YI (by decide) (by decide) rfl (hown.grow LfA.mon (((Below.refl _ wr).alloc (Nat.le_refl _) _).drew)) rfl (SlP.oneB (w:=wr.drew) (E:=LfA _ _) (x:=(([]:List ByteArray),x)) ⟨_,_,rfl,hsl.out _ (by first|exact fun hn=>absurd rfl hn|exact fun _=>rfl) _ (by omega) _ (((Below.refl _ wr).alloc hsz _).drew) (by simp),hok⟩ rfl _ rfl (by rw[World.size_drew,World.size_alloc];exact Nat.lt_succ_self _)) HL.out (by rw[World.size_drew,World.size_alloc];omega) ?_);intro v1 w1 hown1 hb1 hg1 _;have hq1:Below w.heap.size wr w1:=(((Below.refl _ wr).alloc hsz _).drew).trans hb1))
      go_wp2_with fail
      go_roundw
      case rel=>exact⟨k+1,by omega,by go_num,by rw[HX.out];exact hown1,hb.trans hq1⟩
      case measure=>simp[intOf];omega
     ·have hqk':(q.toList==key.toList)=false:=by simpa[QN] using hqk
      have HX:Hid (Qu (l.take (k+1)) key=Qu (l.take k) key):=by unfold Hid;rw[hut];simp[Yl,hqk]
      clear hu hx hc l3 hok hut hc7 hu7 m3 hqk
      go_wp2_with fail
      go_roundw
      case rel=>exact⟨k+1,by omega,by go_num,by rw[HX.out];exact hown,hb⟩
      case measure=>simp[intOf];omega
    ·have hi1:(1:Int)<=(qs.length:Int)+1:=by omega
     have hi2:(qs.length:Int)+1<=(c7:Int):=by omega
     by_cases hqk:q=key
     ·have hqk':(q.toList==key.toList)=true:=by rw[hqk];simp
      have HX:Hid (Qu (l.take (k+1)) key=Qu (l.take k) key++[(qs,x)]):=by unfold Hid;rw[hut];simp[Yl,hqk]
      have HL:Hid ((Qu (l.take k) key).length + [(qs,x)].length<=Few):=by have:=HLe.out;unfold Hid Few;simp;omega
      have HS:Hid (∀ w',Below w.heap.size wr w'->w'.cell? ⟨b,off+k*5,none⟩=some (.slice (some ⟨b7,o7,none⟩) (qs.length+1) c7)/\w'.cell? ⟨b,off+k*5+1,none⟩=some (.int .i64 x.dc)/\w'.cell? ⟨b,off+k*5+2,none⟩=some (.int .i64 x.n)/\w'.cell? ⟨b,off+k*5+3,none⟩=some (.string x.s)/\w'.cell? ⟨b,off+k*5+4,none⟩=some (.int .i64 x.v)):=fun w' hb'=>⟨(hb'.cell hbB).trans e0,(hb'.cell hbB).trans e1,(hb'.cell hbB).trans e2,(hb'.cell hbB).trans e3,(hb'.cell hbB).trans e4⟩
      have HQ:=hid hqk
      have hsl:Hid (∀ (A:Option Addr),(qs≠[]->A=some ⟨b7,o7+1,none⟩)->∀ (cq:Nat),qs.length<=cq->∀ (W:World),Below w.heap.size wr W->wr.heap.size<=W.heap.size->SlA W (fun b=>(okp b∨w.heap.size<=b)/\b<W.heap.size/\u5.ownBlock≠some b) 1 StE (.slice A qs.length cq) qs):=fun A hA cq hcq W hW hWs=>
       ⟨A,cq,rfl,hcq,by first|(unfold Big;omega)|simp[Big],fun hn=>⟨b7,o7+1,hA hn,⟨.inl hb7.1,by omega,fun e=>by have:=(OwnD.lt hown b7 e).1;have:=hb7.2;omega⟩,fun j s hs=>by
        obtain⟨cs,h1,h2,h3⟩:=hc7 (j+1) s hs
        refine⟨cs,h1,h2,fun i u hi=>?_⟩
        rw[←h3 i u hi]
        rw[show o7+1+j*1+i=o7+(j+1)*1+i by omega]
        exact (hW.cell (p:=⟨b7,o7+(j+1)*1+i,none⟩) hb7.2).trans (hb.cell (p:=⟨b7,o7+(j+1)*1+i,none⟩) hb7.2)⟩⟩
      clear hu hx hc l3 hut hc7 hu7 m3 hqk
      go_upto_region 6 with (fail)
      go_region_held3 (fun w'=>w'.cell? ⟨b,off+k*5,none⟩=some (.slice (some ⟨b7,o7,none⟩) (qs.length+1) c7)/\w'.cell? ⟨b,off+k*5+1,none⟩=some (.int .i64 x.dc)/\w'.cell? ⟨b,off+k*5+2,none⟩=some (.int .i64 x.n)/\w'.cell? ⟨b,off+k*5+3,none⟩=some (.string x.s)/\w'.cell? ⟨b,off+k*5+4,none⟩=some (.int .i64 x.v))
       (first|go_keep|exact HS.out _ hq1)
       (first|(go_loud (refine Xh rfl (.tmp 30) (.tmp 43) _ rfl LfA.mon YI (by decide) (by decide) rfl (hown.grow LfA.mon (((Below.refl _ wr).alloc (Nat.le_refl _) _).drew)) rfl (SlP.oneB (w:=wr.drew) (E:=LfA _ _) (x:=(qs,x)) ⟨_,_,rfl,hsl.out _ (by first|exact fun hn=>absurd rfl hn|exact fun _=>rfl) _ (by omega) _ (((Below.refl _ wr).alloc hsz _).drew) (by simp),hok⟩ rfl _ rfl (by rw[World.size_drew,World.size_alloc];exact Nat.lt_succ_self _)) HL.out (by rw[World.size_drew,World.size_alloc];omega) ?_);intro v1 w1 hown1 hb1 hg1 _;have hq1:Below w.heap.size wr w1:=(((Below.refl _ wr).alloc hsz _).drew).trans hb1))
      go_wp2_with fail
      go_roundw
      case rel=>exact⟨k+1,by omega,by go_num,by rw[HX.out];exact hown1,hb.trans hq1⟩
      case measure=>simp[intOf];omega
     ·have hqk':(q.toList==key.toList)=false:=by simpa[QN] using hqk
      have HX:Hid (Qu (l.take (k+1)) key=Qu (l.take k) key):=by unfold Hid;rw[hut];simp[Yl,hqk]
      clear hu hx hc l3 hok hut hc7 hu7 m3 hqk
      go_wp2_with fail
      go_roundw
      case rel=>exact⟨k+1,by omega,by go_num,by rw[HX.out];exact hown,hb⟩
      case measure=>simp[intOf];omega
  ·obtain rfl:k=l.length:=by omega
   rw[List.take_of_length_le (Nat.le_refl _)]at hown
   go_wp2_with fail
   go_ret
   exact⟨_,rfl,hown,hb⟩
end Go.Proofs.YtidebdbjekijkaaGreat
namespace Go.Proofs.YtidebdbjekijkaaGreat
open Go.RowKit
open Classical in
noncomputable def trEq (s t:Tr):Bool:=decide (s=t)
theorem X4 {s t:Tr}:trEq s t=true↔s=t:=by simp[trEq]
theorem Js {s t:Tr}:trEq s t=false↔s≠t:=by simp[trEq]
theorem Kz (s:Tr):∀ (t:Tr) (w:World) (ve vk ue uk:Value),s.rd w w.heap.size ve vk->t.rd w w.heap.size ue uk ->
  Calls Tryz.prog 53 #[.agg #[ve,vk],.agg #[ue,uk]] w fun e w'=>e=.returned (.bool (trEq s t))/\Below w.heap.size w w':=by
 induction s using Tr.ind with
 |h es ks ih=>
 rintro⟨es',ks'⟩ w ve vk ue uk h h'
 rw[Qz]at h h'
 obtain⟨⟨A1,n1,rfl,b1,b2,b3⟩,⟨A2,n2,rfl,c1,c2,c3⟩⟩:=h
 obtain⟨⟨A3,n3,rfl,d1,d2,d3⟩,⟨A4,n4,rfl,f1,f2,f3⟩⟩:=h'
 unfold Big at b2 c2 d2 f2
 by_cases hl:es.length=es'.length
 case neg=>
  have hl':((es.length:Int) != (es'.length:Int))=true:=by simp;omega
  have HL:=hid hl
  clear hl
  go_enter Tryz.func53,Tryz.ntmps53
  go_wp2_with fail
  go_ret
  refine⟨Qf ?_,by go_grown⟩
  rw[eq_comm,Js]
  rintro e;cases e;exact HL.out rfl
 by_cases hm:ks.length=ks'.length
 case neg=>
  have hl':((es.length:Int) != (es'.length:Int))=false:=by simp[hl]
  have hm':((ks.length:Int) != (ks'.length:Int))=true:=by simp;omega
  have HL:=hid hm
  clear hl hm
  go_enter Tryz.func53,Tryz.ntmps53
  go_wp2_with fail
  go_ret
  refine⟨Qf ?_,by go_grown⟩
  rw[eq_comm,Js]
  rintro e;cases e;exact HL.out rfl
 have hl':((es.length:Int) != (es'.length:Int))=false:=by simp[hl]
 have hm':((ks.length:Int) != (ks'.length:Int))=false:=by simp[hm]
 have HL:=hid hl
 have HM:=hid hm
 clear hl hm
 go_enter Tryz.func53,Tryz.ntmps53
 go_wp2_with fail
 go_loopw [26] (fun i wr=>∃ k:Nat,k<=es.length/\i=.int .i64 k/\Hid (es.take k=es'.take k) /\
   Below (w.heap.size+1+1) ((w.alloc (.cells #[.slice A1 es.length n1,.slice A2 ks.length n2] 25)).alloc (.cells #[.slice A3 es'.length n3,.slice A4 ks'.length n4] 25)) wr) (fun i _=>es.length-(intOf i).toNat)
 case atStart=>exact⟨0,Nat.zero_le _,rfl,rfl,Below.refl _ _⟩
 case round=>
  obtain⟨k,hk,rfl,hrel,hb⟩:=hrel
  have hsz:=hb.size
  simp only[World.size_alloc]at hsz
  have hB0:Below w.heap.size w wr:=(((Below.refl _ w).alloc (Nat.le_refl _) _).alloc (by simp) _).trans (hb.mono (by omega))
  have hs0:wr.cell? ⟨w.heap.size,0,none⟩=some (.slice A1 es.length n1):=by rw[hb.cell (p:=⟨w.heap.size,0,none⟩) (by simp;omega)];rw[World.cell?_alloc_past _ _ _ (by simp),World.cell?_alloc_new];rfl
  have hs1:wr.cell? ⟨w.heap.size,1,none⟩=some (.slice A2 ks.length n2):=by rw[hb.cell (p:=⟨w.heap.size,1,none⟩) (by simp;omega)];rw[World.cell?_alloc_past _ _ _ (by simp),World.cell?_alloc_new];rfl
  have ht0:wr.cell? ⟨w.heap.size+1,0,none⟩=some (.slice A3 es'.length n3):=by rw[hb.cell (p:=⟨w.heap.size+1,0,none⟩) (by simp),World.cell?_alloc_at _ _ _ _ (by simp)];rfl
  have ht1:wr.cell? ⟨w.heap.size+1,1,none⟩=some (.slice A4 ks'.length n4):=by rw[hb.cell (p:=⟨w.heap.size+1,1,none⟩) (by simp),World.cell?_alloc_at _ _ _ _ (by simp)];rfl
  by_cases hlt:k<es.length
  ·have hlt2:k<es'.length:=by have:=HL.out;omega
   obtain⟨x,hx⟩:∃ x,es[k]?=some x:=⟨_,List.getElem?_eq_getElem hlt⟩
   obtain⟨y,hy⟩:∃ y,es'[k]?=some y:=⟨_,List.getElem?_eq_getElem hlt2⟩
   obtain⟨ba,oa,rfl,hbA,hc⟩:=b3 (by rintro rfl;simp at hlt)
   obtain⟨bb,ob,rfl,hbB,hd⟩:=d3 (by rintro rfl;simp at hlt2)
   obtain⟨cs,⟨rfl,hok⟩,_,hu⟩:=hc k _ hx
   obtain⟨ds,⟨rfl,hok2⟩,_,hv⟩:=hd k _ hy
   have q0:=Qh (B:=wr.heap.size) ((hB0.cell hbA).trans (hu 0 _ rfl)) (by omega)
   have q1:=Qh (B:=wr.heap.size) ((hB0.cell hbA).trans (hu 1 _ rfl)) (by omega)
   have q2:=Qh (B:=wr.heap.size) ((hB0.cell hbA).trans (hu 2 _ rfl)) (by omega)
   have q3:=Qh (B:=wr.heap.size) ((hB0.cell hbA).trans (hu 3 _ rfl)) (by omega)
   have p0:=Qh (B:=wr.heap.size) ((hB0.cell hbB).trans (hv 0 _ rfl)) (by omega)
   have p1:=Qh (B:=wr.heap.size) ((hB0.cell hbB).trans (hv 1 _ rfl)) (by omega)
   have p2:=Qh (B:=wr.heap.size) ((hB0.cell hbB).trans (hv 2 _ rfl)) (by omega)
   have p3:=Qh (B:=wr.heap.size) ((hB0.cell hbB).trans (hv 3 _ rfl)) (by omega)
   simp only[Nat.add_zero]at q0 p0
   have r0:=Qh (B:=wr.heap.size) hs0 (by omega)
   have r1:=Qh (B:=wr.heap.size) ht0 (by omega)
   have HT:=hid (ZB hx hy hrel.out)
   have HXY:Hid (es=es'->x=y):=fun e=>by subst e;rw[hx]at hy;exact Option.some.inj hy
   have gg:=qKp
   have nn:=zQ8 x y
   have hi1:((k:Int))<(es.length:Int):=by omega
   have hi2:((k:Int))<(es'.length:Int):=by omega
   clear hu hv hc hd b3 d3 hx hy hok hok2
   rcases hxy:decide (x=y)
   ·have hne:x≠y:=by simpa using hxy
    go_upto_region 6 with (fail)
    refine Qd wr.heap.size (by kernel_rfl) (by kernel_rfl) ?_
    repeat (go_big_quiet_step (fail))
    refine wpQuiet_nil ?_
    intro wq hbq
    go_wp2_with fail
    go_ret
    refine⟨Qf ?_,hB0.trans (hbq.mono (by omega))⟩
    rw[eq_comm,Js]
    rintro e;cases e;exact hne (HXY.out rfl)
   ·have hE:=hid (of_decide_eq_true hxy)
    go_upto_region 6 with (fail)
    refine Qd wr.heap.size (by kernel_rfl) (by kernel_rfl) ?_
    repeat (go_big_quiet_step (fail))
    refine wpQuiet_nil ?_
    intro wq hbq
    go_wp2_with fail
    go_roundw
    case rel=>exact⟨k+1,by omega,by go_num,HT.out.2 hE.out,hb.trans (hbq.mono (by omega))⟩
    case measure=>simp[intOf];omega
  ·obtain rfl:k=es.length:=by omega
   have HE:Hid (es=es'):=by
    have h1:=hrel.out
    rw[List.take_of_length_le (Nat.le_refl _),List.take_of_length_le (by rw[HL.out];exact Nat.le_refl _)]at h1
    exact h1
   clear hrel hs0 ht0 hB0 b3 d3 hlt
   go_wp2_with fail
   clear hs1 ht1 hsz
   obtain⟨wo,rfl⟩:∃ wo:World,wo=wr:=⟨_,rfl⟩
   go_loopw [44] (fun i wr=>∃ k:Nat,k<=ks.length/\i=.int .i64 k/\Hid (ks.take k=ks'.take k) /\
    Below (w.heap.size+1+1) ((w.alloc (.cells #[.slice A1 es.length n1,.slice A2 ks.length n2] 25)).alloc (.cells #[.slice A3 es'.length n3,.slice A4 ks'.length n4] 25)) wr) (fun i _=>ks.length-(intOf i).toNat)
   case atStart=>exact⟨0,Nat.zero_le _,rfl,rfl,hb⟩
   case round=>
    clear hb
    obtain⟨k,hk,rfl,hrel,hb⟩:=hrel
    have hsz:=hb.size
    simp only[World.size_alloc]at hsz
    have hB0:Below w.heap.size w wr:=(((Below.refl _ w).alloc (Nat.le_refl _) _).alloc (by simp) _).trans (hb.mono (by omega))
    by_cases hlt:k<ks.length
    ·have hlt2:k<ks'.length:=by have:=HM.out;omega
     obtain⟨⟨key,s1⟩,hx⟩:∃ x,ks[k]?=some x:=⟨_,List.getElem?_eq_getElem hlt⟩
     obtain⟨⟨key',t1⟩,hy⟩:∃ y,ks'[k]?=some y:=⟨_,List.getElem?_eq_getElem hlt2⟩
     obtain⟨ba,oa,rfl,hbA,hc⟩:=c3 (by rintro rfl;simp at hlt)
     obtain⟨bb,ob,rfl,hbB,hd⟩:=f3 (by rintro rfl;simp at hlt2)
     obtain⟨cs,⟨v1,v2,rfl,_,hrs⟩,_,hu⟩:=hc k _ hx
     obtain⟨ds,⟨u1,u2,rfl,_,hrt⟩,_,hv⟩:=hd k _ hy
     have hs1:wr.cell? ⟨w.heap.size,1,none⟩=some (.slice (some ⟨ba,oa,none⟩) ks.length n2):=by rw[hb.cell (p:=⟨w.heap.size,1,none⟩) (by simp;omega)];rw[World.cell?_alloc_past _ _ _ (by simp),World.cell?_alloc_new];rfl
     have ht1:wr.cell? ⟨w.heap.size+1,1,none⟩=some (.slice (some ⟨bb,ob,none⟩) ks'.length n4):=by rw[hb.cell (p:=⟨w.heap.size+1,1,none⟩) (by simp),World.cell?_alloc_at _ _ _ _ (by simp)];rfl
     have q0:=Qh (B:=wr.heap.size) ((hB0.cell hbA).trans (hu 0 _ rfl)) (by omega)
     have q1:=Qh (B:=wr.heap.size) ((hB0.cell hbA).trans (hu 1 _ rfl)) (by omega)
     have q2:=Qh (B:=wr.heap.size) ((hB0.cell hbA).trans (hu 2 _ rfl)) (by omega)
     have p0:=Qh (B:=wr.heap.size) ((hB0.cell hbB).trans (hv 0 _ rfl)) (by omega)
     have p1:=Qh (B:=wr.heap.size) ((hB0.cell hbB).trans (hv 1 _ rfl)) (by omega)
     have p2:=Qh (B:=wr.heap.size) ((hB0.cell hbB).trans (hv 2 _ rfl)) (by omega)
     simp only[Nat.add_zero]at q0 p0
     have r0:=Qh (B:=wr.heap.size) hs1 (by omega)
     have r1:=Qh (B:=wr.heap.size) ht1 (by omega)
     have HT:=hid (ZB hx hy hrel.out)
     have HXY:Hid (ks=ks'->(key,s1)=(key',t1)):=fun e=>by subst e;rw[hx]at hy;exact Option.some.inj hy
     have hmem:(key,s1)∈ks:=List.mem_of_getElem? hx
     have HRS:Hid (∀ w',Below wr.heap.size wr w'->s1.rd w' w'.heap.size v1 v2):=fun w' hb'=>Qi (hB0.trans (hb'.mono (by omega))) (by have:=hb'.size;omega) _ _ _ hrs
     have HRT:Hid (∀ w',Below wr.heap.size wr w'->t1.rd w' w'.heap.size u1 u2):=fun w' hb'=>Qi (hB0.trans (hb'.mono (by omega))) (by have:=hb'.size;omega) _ _ _ hrt
     have hi1:((k:Int))<(ks.length:Int):=by omega
     have hi2:((k:Int))<(ks'.length:Int):=by omega
     clear hu hv hc hd c3 f3 hx hy hs1 ht1 hrs hrt
     rcases hxy:(key.toList==key'.toList)
     ·have hne:key≠key':=fun e=>by rw[e]at hxy;simp at hxy
      have hxy2:(key.toList != key'.toList)=true:=by simp[bne,hxy]
      go_upto_region 12 with (fail)
      refine Qd wr.heap.size (by kernel_rfl) (by kernel_rfl) ?_
      repeat (go_big_quiet_step (fail))
      refine wpQuiet_nil ?_
      intro wq hbq
      go_wp2_with fail
      go_ret
      refine⟨Qf ?_,hB0.trans (hbq.mono (by omega))⟩
      rw[eq_comm,Js]
      rintro e;cases e;exact hne (Prod.mk.inj (HXY.out rfl)).1
     have hE:=hid ((QN key key').1 (by simpa using hxy))
     have hxy2:(key.toList != key'.toList)=false:=by simp[bne,hxy]
     rcases hst:trEq s1 t1
     ·have hne:=Js.1 hst
      go_upto_region 12 with (fail)
      refine Qd wr.heap.size (by kernel_rfl) (by kernel_rfl) ?_
      repeat (go_big_quiet_step ((go_at_call 53;exact Calls.far_all (Nat.le_refl _) (fun w' hb'=>ih key s1 hmem t1 w' _ _ _ _ (HRS.out w' hb') (HRT.out w' hb')))))
      refine wpQuiet_nil ?_
      intro wq hbq
      go_wp2_with fail
      go_ret
      refine⟨Qf ?_,hB0.trans (hbq.mono (by omega))⟩
      rw[eq_comm,Js]
      rintro e;cases e;exact hne (Prod.mk.inj (HXY.out rfl)).2
     ·have hF:=hid (X4.1 hst)
      go_upto_region 12 with (fail)
      refine Qd wr.heap.size (by kernel_rfl) (by kernel_rfl) ?_
      repeat (go_big_quiet_step ((go_at_call 53;exact Calls.far_all (Nat.le_refl _) (fun w' hb'=>ih key s1 hmem t1 w' _ _ _ _ (HRS.out w' hb') (HRT.out w' hb')))))
      refine wpQuiet_nil ?_
      intro wq hbq
      go_wp2_with fail
      go_roundw
      case rel=>exact⟨k+1,by omega,by go_num,HT.out.2 (by rw[hE.out,hF.out]),hb.trans (hbq.mono (by omega))⟩
      case measure=>simp[intOf];omega
    ·obtain rfl:k=ks.length:=by omega
     have HK:Hid (ks=ks'):=by
      have h1:=hrel.out
      rw[List.take_of_length_le (Nat.le_refl _),List.take_of_length_le (by rw[HM.out];exact Nat.le_refl _)]at h1
      exact h1
     clear hrel
     go_wp2_with fail
     go_ret
     refine⟨Qf ?_,hB0⟩
     rw[eq_comm,X4,HE.out,HK.out]
end Go.Proofs.YtidebdbjekijkaaGreat
namespace Go.Proofs.YtidebdbjekijkaaGreat
open Go.RowKit
theorem Xt (s t:Tr)(a b:List Sp)(ve vk ue uk va vb:Value)(w:World)(h:s.rd w w.heap.size ve vk)(h':t.rd w w.heap.size ue uk)(ha:SlP w w.heap.size 3 SpE va a)(hb:SlP w w.heap.size 3 SpE vb b) :
  Calls Tryz.prog 15 #[.agg #[ve,vk,va],.agg #[ue,uk,vb]] w fun e w'=>e=.returned (.bool (trEq s t&&decide (a=b)))/\Below w.heap.size w w':=by
 obtain⟨A1,n1,A2,n2,rfl,rfl⟩:=Qk h
 obtain⟨A3,n3,A4,n4,rfl,rfl⟩:=Qk h'
 have ha0:=ha
 have hb0:=hb
 obtain⟨A5,n5,rfl,_⟩:=ha
 obtain⟨A6,n6,rfl,_⟩:=hb
 have hB:Below w.heap.size w ((w.alloc (.cells #[.slice A1 s.es.length n1,.slice A2 s.ks.length n2,.slice A5 a.length n5] 29)).alloc (.cells #[.slice A3 t.es.length n3,.slice A4 t.ks.length n4,.slice A6 b.length n6] 29)):=((Below.refl _ w).alloc (Nat.le_refl _) _).alloc (by simp) _
 go_enter Tryz.func15,Tryz.ntmps15
 rcases hst:trEq s t
 ·go_wp2_with (go_at_call 53;refine (Kz s t _ _ _ _ _ (Qi hB hB.size _ _ _ h) (Qi hB hB.size _ _ _ h')).mono ?_;rw[hst];rintro e w1 ⟨rfl,hb1⟩)
  go_ret
  exact⟨Qf (by simp),hB.trans (hb1.mono hB.size)⟩
 ·go_wp2_with (first|(go_at_call 53;go_loud ((refine (Kz s t _ _ _ _ _ (Qi hB hB.size _ _ _ h) (Qi hB hB.size _ _ _ h')).mono ?_);rw[hst];rintro e w1 ⟨rfl,hb1⟩;have hc0:w1.cell? ⟨w.heap.size,2,none⟩=some (.slice A5 a.length n5):=(by rw[hb1.cell (p:=⟨w.heap.size,2,none⟩) (by simp;omega),World.cell?_alloc_past _ _ _ (by simp),World.cell?_alloc_new];rfl);have hc1:w1.cell? ⟨w.heap.size+1,2,none⟩=some (.slice A6 b.length n6):=(by rw[hb1.cell (p:=⟨w.heap.size+1,2,none⟩) (by simp),World.cell?_alloc_at _ _ _ _ (by simp)];rfl);have hB1:=hid (hB.trans (hb1.mono hB.size))))|(go_at_call 54;go_loud ((refine (qXl a b _ _ w1 _ (ha0.imp hB1.out hB1.out.size (fun _ _ _ h=>h)) (hb0.imp hB1.out hB1.out.size (fun _ _ _ h=>h))).mono ?_);rintro e w2 ⟨rfl,q,rfl⟩)))
  go_ret
  exact⟨Qf (by simp),hB1.out.trans ⟨rfl,rfl,rfl,Nat.le_refl _,fun _ _=>rfl⟩⟩
def ltS (a b:ByteArray):Bool:=Op.bytesLess a.toList b.toList
theorem Qw (a:ByteArray):ltS a a=false:=by
 unfold ltS;rw[bytesLess_eq];simp[List.lt_irrefl]
theorem QD {a b c:ByteArray}(h:ltS a b=true)(k:ltS b c=true):ltS a c=true:=by
 unfold ltS at *;rw[bytesLess_eq]at *
 simp only[decide_eq_true_eq]at *
 exact List.lt_trans h k
theorem ZW {a b:ByteArray}(h:ltS a b=false)(k:ltS b a=false):a=b:=by
 unfold ltS at *;rw[bytesLess_eq]at *
 simp only[decide_eq_false_iff_not,List.not_lt]at *
 exact (QN a b).1 (List.le_antisymm k h)
theorem qYx (a b:ByteArray):ltS a b=(!Op.bytesLess b.toList a.toList&&!(b.toList==a.toList)):=by
 unfold ltS
 rw[bytesLess_eq,bytesLess_eq,Bool.eq_iff_iff]
 simp only[decide_eq_true_eq,Bool.and_eq_true,Bool.not_eq_true',decide_eq_false_iff_not,beq_eq_false_iff_ne,List.not_lt]
 constructor
 ·intro h;exact⟨List.le_of_lt h,fun e=>by rw[e]at h;exact List.lt_irrefl _ h⟩
 ·rintro⟨h,k⟩
  rcases Decidable.em (a.toList<b.toList) with h'|h'
  ·exact h'
  ·exact absurd (List.le_antisymm (List.not_lt.1 h') h) k
theorem Yn (a:Dt):a.lt a=false:=by simp[Dt.lt]
theorem YJ {a b c:Dt}(h:a.lt b=true)(k:b.lt c=true):a.lt c=true:=by
 unfold Dt.lt at *
 split at h<;>split at k<;>split<;>simp at *<;>omega
def selC (last:Option Dt)(b:Option En)(x:Lf):Bool:=
 x.1.isEmpty&&okP last x.2.dot&&(match b with|none=>true|some c=>x.2.dot.lt c.dot)
def selS (last:Option Dt)(b:Option En)(x:Lf):Option En:=if selC last b x then some x.2 else b
def bestE (l:List Lf)(last:Option Dt):Option En:=l.foldl (selS last) none
def Xw (l:List Lf):Nat->List En->List En
 |0,es=>es
 |n+1,es=>match bestE l (es.getLast?.map En.dot) with|none=>es|some e=>Xw l n (es++[e])
def Yh (l:List Lf):List En:=Xw l (l.length+1) []
def keyC (last b:ByteArray)(x:Lf):Bool:=match x.1 with | []=>false | q :: _=>ltS last q&&(decide (b=ByteArray.empty)||ltS q b)
def keyS (last b:ByteArray)(x:Lf):ByteArray:=if keyC last b x then x.1.headD ByteArray.empty else b
def bestK (l:List Lf)(last:ByteArray):ByteArray:=l.foldl (keyS last) ByteArray.empty
def ZX (f:List Lf->Tr)(l:List Lf):Nat->ByteArray->List Kd
 |0,_=>[]
 |n+1,last=>if bestK l last=ByteArray.empty then [] else (bestK l last,f (Qu l (bestK l last))) :: ZX f l n (bestK l last)
def JQ:Nat->List Lf->Tr
 |0,l=>.mk (Yh l) (ZX (fun _=>.mk [] []) l (l.length+1) ByteArray.empty)
 |d+1,l=>.mk (Yh l) (ZX (JQ d) l (l.length+1) ByteArray.empty)
def ahE (l:List Lf)(last:Option Dt):Nat:=(l.filter fun x=>okP last x.2.dot).length
def ahK (l:List Lf)(last:ByteArray):Nat:=(l.filter fun x=>match x.1 with|[]=>false|q :: _=>ltS last q).length
theorem qV4 (l:List Lf)(last:Option Dt):∀ (b:Option En),(∀ e,b=some e->okP last e.dot=true)->∀ e,l.foldl (selS last) b=some e->(b=some e∨∃ x∈l,x.1=[]/\x.2=e)/\okP last e.dot=true:=by
 induction l with
 |nil=>intro b hb e he;exact⟨.inl he,hb e he⟩
 |cons x l ih=>
  intro b hb e he
  rw[List.foldl_cons]at he
  by_cases hc:selC last b x=true
  ·have e1:selS last b x=some x.2:=by simp[selS,hc]
   rw[e1]at he
   simp only[selC,Bool.and_eq_true]at hc
   obtain⟨h1,h2⟩:=ih (some x.2) (fun e he=>by cases he;exact hc.1.2) e he
   refine⟨.inr ?_,h2⟩
   rcases h1 with h1|⟨y,hy,h3⟩
   ·cases h1;exact⟨x,by simp,by simpa using hc.1.1,rfl⟩
   ·exact⟨y,by simp[hy],h3⟩
  ·have e1:selS last b x=b:=by simp[selS,hc]
   rw[e1]at he
   obtain⟨h1,h2⟩:=ih b hb e he
   refine⟨?_,h2⟩
   rcases h1 with h1|⟨y,hy,h3⟩
   ·exact .inl h1
   ·exact .inr ⟨y,by simp[hy],h3⟩
theorem X9 {l:List Lf}{last:Option Dt}{e:En}(h:bestE l last=some e):(∃ x∈l,x.1=[]/\x.2=e)/\okP last e.dot=true:=by
 obtain⟨h1,h2⟩:=qV4 l last none (fun _ h=>by cases h) e h
 refine⟨?_,h2⟩
 rcases h1 with h1|h1
 ·cases h1
 ·exact h1
theorem Xx {α:Type}{p q:α->Bool}:∀ {l:List α}{x:α},x∈l->(∀ y,q y=true->p y=true)->p x=true->q x=false->(l.filter q).length<(l.filter p).length
 |z :: l,x,hx,hpq,hp,hq=>by
  have hle:(l.filter q).length<=(l.filter p).length:=by
   clear hx
   induction l with
   |nil=>simp
   |cons u l ih=>
    simp only[List.filter_cons]
    cases h1:q u
    ·cases h2:p u<;>simp<;>omega
    ·simp[hpq u h1];omega
  simp only[List.filter_cons]
  rcases List.mem_cons.1 hx with rfl|hx
  ·simp[hp,hq];omega
  ·have:=Xx hx hpq hp hq
   cases h1:q z
   ·cases h2:p z<;>simp<;>omega
   ·simp[hpq z h1];omega
theorem qQp {last:Option Dt}{a b:Dt}(h:okP last a=true)(k:a.lt b=true):okP last b=true:=by
 cases last with
 |none=>rfl
 |some q=>exact YJ h k
theorem zXo {l:List Lf}{last:Option Dt}{e:En}(h:bestE l last=some e):ahE l (some e.dot)<ahE l last:=by
 obtain⟨⟨x,hx,_,rfl⟩,h2⟩:=X9 h
 exact Xx hx (fun y hy=>qQp h2 hy) h2 (Yn _)
theorem qV5 (l:List Lf)(last:Option Dt):ahE l last<=l.length:=List.length_filter_le _ _
theorem qV6 (l:List Lf)(last:ByteArray):∀ (b:ByteArray),(b≠ByteArray.empty->ltS last b=true)->(l.foldl (keyS last) b=b∨∃ x∈l,∃ qs,x.1=l.foldl (keyS last) b :: qs)/\(l.foldl (keyS last) b≠ByteArray.empty->ltS last (l.foldl (keyS last) b)=true):=by
 induction l with
 |nil=>intro b hb;exact⟨.inl rfl,hb⟩
 |cons x l ih=>
  intro b hb
  rw[List.foldl_cons]
  by_cases hc:keyC last b x=true
  ·obtain⟨p,e⟩:=x
   cases p with
   |nil=>simp[keyC]at hc
   |cons q qs=>
    have e1:keyS last b (q :: qs,e)=q:=by simp[keyS,hc]
    rw[e1]
    simp only[keyC,Bool.and_eq_true]at hc
    obtain⟨h1,h2⟩:=ih q (fun _=>hc.1)
    refine⟨.inr ?_,h2⟩
    rcases h1 with h1|⟨y,hy,qs',h3⟩
    ·exact⟨_,List.mem_cons_self,qs,by rw[h1]⟩
    ·exact⟨y,by simp[hy],qs',h3⟩
  ·have e1:keyS last b x=b:=by simp[keyS,hc]
   rw[e1]
   obtain⟨h1,h2⟩:=ih b hb
   refine⟨?_,h2⟩
   rcases h1 with h1|⟨y,hy,h3⟩
   ·exact .inl h1
   ·exact .inr ⟨y,by simp[hy],h3⟩
theorem Ja {l:List Lf}{last:ByteArray}(h:bestK l last≠ByteArray.empty):(∃ x∈l,∃ qs,x.1=bestK l last :: qs)/\ltS last (bestK l last)=true:=by
 obtain⟨h1,h2⟩:=qV6 l last ByteArray.empty (fun h=>absurd rfl h)
 refine⟨?_,h2 h⟩
 rcases h1 with h1|h1
 ·exact absurd h1 h
 ·exact h1
theorem zXp {l:List Lf}{last:ByteArray}(h:bestK l last≠ByteArray.empty):ahK l (bestK l last)<ahK l last:=by
 obtain⟨⟨x,hx,qs,hq⟩,h2⟩:=Ja h
 refine Xx hx (fun y hy=>?_) ?_ ?_
 ·revert hy
  cases y.1 with
  |nil=>exact fun h=>h
  |cons q _=>exact fun hy=>QD h2 hy
 ·rw[hq];exact h2
 ·rw[hq];exact Qw _
theorem qV7 (l:List Lf)(last:ByteArray):ahK l last<=l.length:=List.length_filter_le _ _
theorem qKr {l:List Lf}{k:Nat}{x:Lf}(h:l[k]?=some x)(last:Option Dt)(b:Option En):(l.take (k+1)).foldl (selS last) b=selS last ((l.take k).foldl (selS last) b) x:=by
 rw[List.take_add_one,h,List.foldl_append];rfl
theorem qKs {l:List Lf}{k:Nat}{x:Lf}(h:l[k]?=some x)(last b:ByteArray):(l.take (k+1)).foldl (keyS last) b=keyS last ((l.take k).foldl (keyS last) b) x:=by
 rw[List.take_add_one,h,List.foldl_append];rfl
theorem qVr (t:Tr)(s:ByteArray)(w:World)(ve vk:Value)(h:t.rd w w.heap.size ve vk) :
  Calls Tryz.prog 181 #[.agg #[ve,vk],.string s] w fun e w'=>e=.returned (.bool (t.ks.any fun y=>decide (y.1=s)))/\Below w.heap.size w w':=by
 obtain⟨es,ks⟩:=t
 rw[Qz]at h
 obtain⟨⟨A0,n0,rfl,d1,d2,d3⟩,⟨A,m,rfl,c1,c2,c3⟩⟩:=h
 unfold Big at c2 d2
 simp only[Tr.ks]
 have hb0:Below w.heap.size w (w.alloc (.cells #[.slice A0 es.length n0,.slice A ks.length m] 25)):=(Below.refl _ w).alloc (Nat.le_refl _) _
 clear d3
 go_enter Tryz.func181,Tryz.ntmps181
 go_wp2_with fail
 go_loop [9] (fun i=>∃ k:Nat,k<=ks.length/\i=.int .i64 k/\Hid (((ks.take k).any fun y=>decide (y.1=s))=false)) (fun i=>ks.length-(intOf i).toNat)
 case atStart=>exact⟨0,Nat.zero_le _,rfl,rfl⟩
 case round=>
  obtain⟨k,hk,rfl,hrel⟩:=hrel
  by_cases hlt:k<ks.length
  ·obtain⟨⟨key,t⟩,hx⟩:∃ x,ks[k]?=some x:=⟨_,List.getElem?_eq_getElem hlt⟩
   obtain⟨b,off,rfl,hbB,hc⟩:=c3 (by rintro rfl;simp at hlt)
   obtain⟨cs,⟨ve',vk',rfl,hkb,hrd⟩,_,hu⟩:=hc k _ hx
   have e0:(w.alloc (.cells #[.slice A0 es.length n0,.slice (some ⟨b,off,none⟩) ks.length m] 25)).cell? ⟨b,off+k*3,none⟩=some (.string key):=(hb0.cell hbB).trans (hu 0 _ rfl)
   have HM:Hid ((key,t)∈ks):=List.mem_of_getElem? hx
   have HT:Hid (((ks.take (k+1)).any fun y=>decide (y.1=s))=decide (key=s)):=by
    unfold Hid;rw[List.take_add_one,hx,List.any_append,hrel.out];simp
   clear hu hc c3 hx hrd
   by_cases he:key=s
   ·have hq:(key.toList==s.toList)=true:=by rw[he];simp
    have HE:=hid he
    clear he
    go_wp2_with fail
    go_ret
    exact⟨Qf (List.any_eq_true.2 ⟨_,HM.out,by simpa using HE.out⟩).symm,hb0⟩
   ·have hq:(key.toList==s.toList)=false:=by simp[QN];exact he
    have HE:=hid he
    clear he
    go_wp2_with fail
    go_round
    case rel=>exact⟨k+1,by omega,by go_num,by unfold Hid;rw[HT.out];simpa using HE.out⟩
    case measure=>simp[intOf];omega
  ·obtain rfl:k=ks.length:=by omega
   have hr:=hrel.out
   rw[List.take_of_length_le (Nat.le_refl _)]at hr
   have HR:=hid hr
   clear hr
   go_wp2_with fail
   go_ret
   exact⟨Qf HR.out.symm,hb0⟩
theorem Qa {w:World}{n i:Nat}{cs:Array Value}{e:TypeId}{z:Nat×Nat}(h:w.heap[n]?=some (.cells cs e z)):w.cell? ⟨n,i,none⟩=cs[i]?:=by
 unfold World.cell?;simp only[h];rfl
theorem JR {α:Type}(l:List α):l=[]∨∃ L b,l=L++[b]:=by
 rcases List.eq_nil_or_concat l with h|⟨L,b,h⟩
 ·exact .inl h
 ·exact .inr ⟨L,b,by rw[h,List.concat_eq_append]⟩
theorem bx2 {w:World}{g:Nat}{a b:Value}{e:TypeId}(h:w.heap[g]?=some (.cells #[a,b] e (0,0))):w.cell? ⟨g,0,none⟩=some a/\w.cell? ⟨g,1,none⟩=some b:=⟨Qa (i:=0) h,Qa (i:=1) h⟩
theorem bx3 {w:World}{g:Nat}{a b c:Value}{e:TypeId}(h:w.heap[g]?=some (.cells #[a,b,c] e (0,0))):w.cell? ⟨g,0,none⟩=some a/\w.cell? ⟨g,1,none⟩=some b/\w.cell? ⟨g,2,none⟩=some c:=⟨Qa (i:=0) h,Qa (i:=1) h,Qa (i:=2) h⟩
theorem bx4 {w:World}{g:Nat}{a b c d:Value}{e:TypeId}(h:w.heap[g]?=some (.cells #[a,b,c,d] e (0,0))):w.cell? ⟨g,0,none⟩=some a/\w.cell? ⟨g,1,none⟩=some b/\w.cell? ⟨g,2,none⟩=some c/\w.cell? ⟨g,3,none⟩=some d:=⟨Qa (i:=0) h,Qa (i:=1) h,Qa (i:=2) h,Qa (i:=3) h⟩
theorem bx7 {w:World}{g:Nat}{a b c d x y z:Value}{e:TypeId}(h:w.heap[g]?=some (.cells #[a,b,c,d,x,y,z] e (0,0))):w.cell? ⟨g,0,none⟩=some a/\w.cell? ⟨g,1,none⟩=some b/\w.cell? ⟨g,2,none⟩=some c/\w.cell? ⟨g,3,none⟩=some d/\w.cell? ⟨g,4,none⟩=some x/\w.cell? ⟨g,5,none⟩=some y/\w.cell? ⟨g,6,none⟩=some z:=⟨Qa (i:=0) h,Qa (i:=1) h,Qa (i:=2) h,Qa (i:=3) h,Qa (i:=4) h,Qa (i:=5) h,Qa (i:=6) h⟩
theorem bzn {w:World}{g:Nat}{cs:Array Value}{e:TypeId}(h:w.heap[g]?=some (.cells cs e (0,0)))(i:Nat):w.frozen? ⟨g,i,none⟩=false:=by simp[World.frozen?,h]
theorem bz2 {w:World}{g:Nat}{a b:Value}{e:TypeId}(h:w.heap[g]?=some (.cells #[a,b] e (0,0))):w.cell? ⟨g,0,none⟩=some a/\w.cell? ⟨g,1,none⟩=some b/\w.frozen? ⟨g,0,none⟩=false/\w.frozen? ⟨g,1,none⟩=false:=⟨(bx2 h).1,(bx2 h).2,bzn h 0,bzn h 1⟩
theorem bz3 {w:World}{g:Nat}{a b c:Value}{e:TypeId}(h:w.heap[g]?=some (.cells #[a,b,c] e (0,0))):w.cell? ⟨g,0,none⟩=some a/\w.cell? ⟨g,1,none⟩=some b/\w.cell? ⟨g,2,none⟩=some c/\w.frozen? ⟨g,0,none⟩=false/\w.frozen? ⟨g,1,none⟩=false/\w.frozen? ⟨g,2,none⟩=false:=⟨(bx3 h).1,(bx3 h).2.1,(bx3 h).2.2,bzn h 0,bzn h 1,bzn h 2⟩
theorem bz4 {w:World}{g:Nat}{a b c d:Value}{e:TypeId}(h:w.heap[g]?=some (.cells #[a,b,c,d] e (0,0))):w.cell? ⟨g,0,none⟩=some a/\w.cell? ⟨g,1,none⟩=some b/\w.cell? ⟨g,2,none⟩=some c/\w.cell? ⟨g,3,none⟩=some d/\w.frozen? ⟨g,0,none⟩=false/\w.frozen? ⟨g,1,none⟩=false/\w.frozen? ⟨g,2,none⟩=false/\w.frozen? ⟨g,3,none⟩=false:=⟨(bx4 h).1,(bx4 h).2.1,(bx4 h).2.2.1,(bx4 h).2.2.2,bzn h 0,bzn h 1,bzn h 2,bzn h 3⟩
theorem bz7 {w:World}{g:Nat}{a b c d x y z:Value}{e:TypeId}(h:w.heap[g]?=some (.cells #[a,b,c,d,x,y,z] e (0,0))):w.cell? ⟨g,0,none⟩=some a/\w.cell? ⟨g,1,none⟩=some b/\w.cell? ⟨g,2,none⟩=some c/\w.cell? ⟨g,3,none⟩=some d/\w.cell? ⟨g,4,none⟩=some x/\w.cell? ⟨g,5,none⟩=some y/\w.cell? ⟨g,6,none⟩=some z/\w.frozen? ⟨g,0,none⟩=false/\w.frozen? ⟨g,1,none⟩=false/\w.frozen? ⟨g,2,none⟩=false/\w.frozen? ⟨g,3,none⟩=false/\w.frozen? ⟨g,4,none⟩=false/\w.frozen? ⟨g,5,none⟩=false/\w.frozen? ⟨g,6,none⟩=false:=⟨(bx7 h).1,(bx7 h).2.1,(bx7 h).2.2.1,(bx7 h).2.2.2.1,(bx7 h).2.2.2.2.1,(bx7 h).2.2.2.2.2.1,(bx7 h).2.2.2.2.2.2,bzn h 0,bzn h 1,bzn h 2,bzn h 3,bzn h 4,bzn h 5,bzn h 6⟩
theorem Qb {w:World}{n i:Nat}{cs:Array Value}{e:TypeId}(h:w.heap[n]?=some (.cells cs e (0,0))):w.frozen? ⟨n,i,none⟩=false:=by
 simp[World.frozen?,h]
theorem Qe {w:World}{n i:Nat}{cs:Array Value}{e:TypeId}{z:Nat×Nat}(h:w.heap[n]?=some (.cells cs e z))(v:Value):(w.setCell ⟨n,i,none⟩ v).heap[n]?=some (.cells (cs.setIfInBounds i v) e z):=by
 have hlt:=lt_of_block h
 have h':w.heap[n]=.cells cs e z:=by simpa[Array.getElem?_eq_getElem hlt] using h
 show (w.heap.modify n _)[n]?=_
 rw[Array.getElem?_eq_getElem (by simpa using hlt),Array.getElem_modify_self,h']
 rfl
theorem OwnP.setOther {α:Type}{w:World}{base:Nat}{e:TypeId}{sz:Nat}{E:α->List Value->Prop}{v:Value}{xs:List α}(h:OwnP w base e sz E v xs){a:Addr}(ha:a.block<base)(u:Value):OwnP (w.setCell a u) base e sz E v xs:=by
 obtain⟨css,h1,h2⟩:=h
 exact⟨css,h1,ownsRow_setCell_below h2 ha u⟩
theorem OwnD.setOther {α:Type}{w:World}{base:Nat}{e:TypeId}{sz:Nat}{E:World->(Nat->Prop)->α->List Value->Prop}{okp:Nat->Prop}{v:Value}{xs:List α}(h:OwnD w base e sz E okp v xs)(hE:Emon E){a:Addr}(ha:a.block<base)(ho:¬okp a.block)(u:Value):OwnD (w.setCell a u) base e sz E okp v xs:=
 (OwnP.setOther h ha u).imp fun _ _ _ hx=>hE.up (w:=w) (fun b hb=>Below.heap_setCell w a u b (fun e=>ho (e▸hb.1))) (fun b hb=>⟨hb.1,by simpa[World.setCell] using hb.2.1,hb.2.2⟩) hx
theorem qXn {w:World}{ok okq:Nat->Prop}{q:ByteArray}{t:Tr}{ve vk:Value}{B:Nat}(h:t.rda w ok ve vk)(hq:q.size<=Big)(hok:∀ b,ok b->b<w.heap.size/\okq b)(e:TypeId)(hB:w.heap.size<B) :
  SlP (w.alloc (.cells #[.string q,ve,vk] e)) B 3 (KdA (w.alloc (.cells #[.string q,ve,vk] e)) okq) (.slice (some ⟨w.heap.size,0,none⟩) 1 1) [(q,t)]:=
 SlP.oneB (x:=(q,t)) (cs:=[.string q,ve,vk]) ⟨ve,vk,rfl,hq,Qp (fun b hb=>Qg (hok b hb).1) (fun b hb=>(hok b hb).2) _ _ _ h⟩ rfl e rfl hB
def bestC:Option En->List Value
 |none=>[.int .i64 0,.int .i64 0,.string ByteArray.empty,.int .i64 0]
 |some e=>[.int .i64 e.dc,.int .i64 e.n,.string e.s,.int .i64 e.v]
def lastD (es:List En):Option Dt:=es.getLast?.map En.dot
def zJm (l:List Lf)(w:World)(n:Nat)(wr:World):Prop:=
 ∃ (es:List En) (ve:Value),OwnP wr (w.heap.size+2) 92 4 EnE ve es/\wr.heap[w.heap.size+1]?=some (.cells #[ve,.slice none 0 0] 25 (0,0))/\wr.heap[w.heap.size]?=some (.cells #[.slice none 0 0,.slice none 0 0] 25 (0,0)) /\
  w.heap.size+2<=wr.heap.size/\Below w.heap.size w wr/\Hid (Xw l n es=Yh l)/\Hid (ahE l (lastD es)<n)/\Hid (es.length+ahE l (lastD es)<=l.length)
def zJn (f:List Lf->Tr)(l:List Lf)(w w1:World)(ve:Value)(n:Nat)(vl:Value)(wr:World):Prop:=
 ∃ (last:ByteArray) (ks:List Kd) (vk:Value),vl=.string last/\OwnD wr w1.heap.size 106 3 KdA (fun b=>w1.heap.size<=b) vk ks/\wr.heap[w.heap.size+1]?=some (.cells #[ve,vk] 25 (0,0))/\wr.heap[w.heap.size]?=some (.cells #[.slice none 0 0,.slice none 0 0] 25 (0,0)) /\
  Keeps (fun b=>w.heap.size+2<=b/\b<w1.heap.size) w1 wr/\w1.heap.size<=wr.heap.size/\Below w.heap.size w wr/\Hid (ks++ZX f l n last=ZX f l (l.length+1) ByteArray.empty)/\Hid (ahK l last<n)/\Hid (ks.length+ahK l last<=l.length)
theorem qQq (f:List Lf->Tr)(l:List Lf)(vl:Value)(w:World)(ih:∀ x∈l,∀ q qs,x.1=q :: qs->∀ vl w,SlP w w.heap.size 5 (LfA w (fun b=>b<w.heap.size)) vl (Qu l q) ->
   Calls Tryz.prog 57 #[vl] w fun e w'=>∃ ve vk,e=.returned (.agg #[ve,vk])/\(f (Qu l q)).rda w' (fun b=>w.heap.size<=b/\b<w'.heap.size) ve vk/\Below w.heap.size w w')
  (h:SlP w w.heap.size 5 (LfA w (fun b=>b<w.heap.size)) vl l) (hN:l.length<=900000) :
  Calls Tryz.prog 57 #[vl] w fun e w'=>∃ ve vk,e=.returned (.agg #[ve,vk])/\(Tr.mk (Yh l) (ZX f l (l.length+1) ByteArray.empty)).rda w' (fun b=>w.heap.size<=b/\b<w'.heap.size) ve vk/\Below w.heap.size w w':=by
 have HLW:Hid (∀ w',Below w.heap.size w w'->SlP w' w'.heap.size 5 (LfA w' (fun b=>True/\b<w'.heap.size)) vl l):=fun w' hb'=>
  h.imp hb' hb'.size fun _ _ _ hx=>LfA.mon.up (fun b hb=>hb'.block b hb) (fun b hb=>⟨trivial,Nat.lt_of_lt_of_le hb hb'.size⟩) hx
 obtain⟨A,c,rfl,l1,l2,l3⟩:=h
 unfold Big at l2
 have IH:=hid ih
 clear ih
 go_enter Tryz.func57,Tryz.ntmps57
 go_wp2_with fail
 go_loopg [] (l.length+1) (fun n wr=>zJm l w n wr)
 case atStart=>
  refine⟨[],.slice none 0 0,OwnP.nil,?_,?_,?_,?_,rfl,?_,?_⟩
  ·exact Qc (by simp)
  ·rw[Qg (by simp)];exact Qc rfl
  ·simp
  ·exact (((Below.refl _ w).alloc (Nat.le_refl _) _).alloc (by simp) _)
  ·have:=qV5 l (lastD []);unfold Hid;omega
  ·have:=qV5 l (lastD []);unfold Hid;simp;omega
 case round=>
  obtain⟨es,ve,hown,hg3,hg2,hsz,hb,hgo,hah,hle⟩:=hrel
  have hel:es.length<=900000:=by have:=hle.out;omega
  obtain⟨Ae,ce,rfl⟩:=hown.shape
  have hsp:=hown.sl (by unfold Big;omega)
  go_wp2_with fail
  obtain⟨wo,rfl⟩:∃ wo:World,wo=wr:=⟨_,rfl⟩
  go_loopw [5,13] (fun f i wr=>∃ (k:Nat),k<=l.length/\i=.int .i64 k/\f=.bool ((l.take k).foldl (selS (lastD es)) none).isSome/\wr.heap[wo.heap.size]?=some (.cells (bestC ((l.take k).foldl (selS (lastD es)) none)).toArray 92 (0,0))/\Below wo.heap.size wo wr) (fun _ i _=>l.length-(intOf i).toNat)
  case atStart=>exact⟨0,Nat.zero_le _,rfl,rfl,Qc rfl,(Below.refl _ _).alloc (Nat.le_refl _) _⟩
  case round=>
   obtain⟨k,hk,rfl,rfl,hbx,hbr⟩:=hrel
   have hs2:=hbr.size
   have hs3:wo.heap.size<wr.heap.size:=(Array.getElem?_eq_some_iff.1 hbx).1
   have hB:Below w.heap.size w wr:=hb.trans (hbr.mono (by omega))
   by_cases hlt:k<l.length
   ·obtain⟨⟨p,x⟩,hx⟩:∃ x,l[k]?=some x:=⟨_,List.getElem?_eq_getElem hlt⟩
    obtain⟨b,off,rfl,hbB,hc⟩:=l3 (by rintro rfl;simp at hlt)
    obtain⟨cs,⟨A7,c7,rfl,hp,hok⟩,_,hu⟩:=hc k _ hx
    have hut:=qKr hx (lastD es) none
    have e0:wr.cell? ⟨b,off+k*5,none⟩=some (.slice A7 p.length c7):=(hB.cell hbB).trans (hu 0 _ rfl)
    have q0:=Qh (B:=wr.heap.size) e0 (by omega)
    have e1:=(hB.cell hbB).trans (hu 1 _ rfl)
    have e2:=(hB.cell hbB).trans (hu 2 _ rfl)
    have q1:=Qh (B:=wr.heap.size) e1 (by omega)
    have q2:=Qh (B:=wr.heap.size) e2 (by omega)
    have hg3r:wr.heap[w.heap.size+1]?=some (.cells #[.slice Ae es.length ce,.slice none 0 0] 25 (0,0)):=(hbr.block _ (by omega)).trans hg3
    have z0:wr.cell? ⟨w.heap.size+1,0,none⟩=some (.slice Ae es.length ce):=Qa (i:=0) hg3r
    have r0:=Qh (B:=wr.heap.size) z0 (by omega)
    have hbp:∀ m',Below wr.heap.size wr m'->m'.heap[wo.heap.size]?=some (.cells (bestC ((l.take k).foldl (selS (lastD es)) none)).toArray 92 (0,0)):=fun m' hm=>(hm.block _ hs3).trans hbx
    cases p with
    |cons q qs=>
     have HX:Hid ((l.take (k+1)).foldl (selS (lastD es)) none=(l.take k).foldl (selS (lastD es)) none):=by unfold Hid;rw[hut];simp[selS,selC]
     have HBP:=hid hbp
     obtain⟨np,hnp,hne⟩:∃ np,np=(q :: qs).length/\((np:Int)==0)=false:=⟨_,rfl,by simp;omega⟩
     rw[←hnp]at q0
     clear hu hx hc l3 hok hp hut hbp hbx hg3r e0 e1 e2 hnp
     go_upto_region 8 with (fail)
     refine Qd wr.heap.size (by kernel_rfl) (by kernel_rfl) ?_
     repeat (go_big_quiet_step ((go_at_call 104;exact Calls.far_of (Nat.le_refl _) (QF ⟨_,_⟩ ⟨_,_⟩ _))))
     refine wpQuiet_nil ?_
     intro wq hbq
     go_wp2_with fail
     go_roundw
     case rel=>exact⟨k+1,by omega,by go_num,by rw[HX.out],by rw[HX.out];exact HBP.out _ hbq,hbr.trans (hbq.mono (by omega))⟩
     case measure=>simp[intOf];omega
    |nil=>
     obtain⟨q1',q2'⟩:=And.intro q1 q2
     have e3:=(hB.cell hbB).trans (hu 3 _ rfl)
     have e4:=(hB.cell hbB).trans (hu 4 _ rfl)
     have HE:Hid (∀ m',Below wr.heap.size wr m'->m'.cell? ⟨b,off+k*5+1,none⟩=some (.int .i64 x.dc)/\m'.cell? ⟨b,off+k*5+2,none⟩=some (.int .i64 x.n)/\m'.cell? ⟨b,off+k*5+3,none⟩=some (.string x.s)/\m'.cell? ⟨b,off+k*5+4,none⟩=some (.int .i64 x.v)):=
      fun m' hm=>⟨(hm.cell (by simp;omega)).trans e1,(hm.cell (by simp;omega)).trans e2,(hm.cell (by simp;omega)).trans e3,(hm.cell (by simp;omega)).trans e4⟩
     simp only[List.length_nil]at q0
     clear hu hx hc l3 hp e0 e1 e2 e3 e4 hg3r
     rcases JR es with rfl|⟨es',z,rfl⟩
     ·generalize hbst:(l.take k).foldl (selS (lastD [])) none=bst at *
      simp only[List.length_nil]at r0 z0
      cases bst with
      |none=>
       have HX:Hid ((l.take (k+1)).foldl (selS (lastD [])) none=some x):=by unfold Hid;rw[hut];simp[selS,selC,okP,lastD]
       clear hut hbst
       have HBP:=hid hbp
       clear hbp hbx
       go_upto_region 8 with (fail)
       refine Qd wr.heap.size (by kernel_rfl) (by kernel_rfl) ?_
       repeat (go_big_quiet_step ((go_at_call 104;exact Calls.far_of (Nat.le_refl _) (QF ⟨_,_⟩ ⟨_,_⟩ _))))
       refine wpQuiet_nil ?_
       intro wq hbq
       have hqs:=hbq.size
       obtain⟨f1,f2,f3,f4⟩:=HE.out wq hbq
       have hfb:=HBP.out wq hbq
       have FB:=hid hfb
       obtain⟨c0,c1,c2,c3,z0,z1,z2,z3⟩:=bz4 hfb
       try simp only[bestC,List.getElem?_toArray,List.getElem?_cons_zero,List.getElem?_cons_succ]at c0 c1 c2 c3
       clear hfb
       go_wp2_with fail
       go_roundw
       case rel=>exact⟨k+1,by omega,by go_num,by rw[HX.out]<;>rfl,by rw[HX.out];simpa[bestC] using Qe (i:=3) (Qe (i:=2) (Qe (i:=1) (Qe (i:=0) FB.out _) _) _) _,(((((hbr.trans (hbq.mono (by omega))).setCell (Nat.le_refl _) _).setCell (Nat.le_refl _) _).setCell (Nat.le_refl _) _).setCell (Nat.le_refl _) _)⟩
       case measure=>simp[intOf];omega
      |some y=>
       rcases hyx:Dt.lt ⟨x.dc,x.n⟩ ⟨y.dc,y.n⟩
       ·have HX:Hid ((l.take (k+1)).foldl (selS (lastD [])) none=some y):=by unfold Hid;rw[hut];simp[selS,selC,okP,lastD,En.dot,hyx]
        clear hut hbst
        have y0':wr.cell? ⟨wo.heap.size,0,none⟩=some (.int .i64 y.dc):=Qa (i:=0) hbx
        have y1':wr.cell? ⟨wo.heap.size,1,none⟩=some (.int .i64 y.n):=Qa (i:=1) hbx
        have y0:=Qh (B:=wr.heap.size) y0' hs3
        have y1:=Qh (B:=wr.heap.size) y1' hs3
        clear y0' y1'
        have HBP:=hid hbp
        clear hbp hbx
        go_upto_region 8 with (fail)
        refine Qd wr.heap.size (by kernel_rfl) (by kernel_rfl) ?_
        repeat (go_big_quiet_step ((go_at_call 104;exact Calls.far_of (Nat.le_refl _) (QF ⟨_,_⟩ ⟨_,_⟩ _))))
        refine wpQuiet_nil ?_
        intro wq hbq
        go_wp2_with fail
        go_roundw
        case rel=>exact⟨k+1,by omega,by go_num,by rw[HX.out]<;>rfl,by rw[HX.out];exact HBP.out _ hbq,hbr.trans (hbq.mono (by omega))⟩
        case measure=>simp[intOf];omega
       ·have HX:Hid ((l.take (k+1)).foldl (selS (lastD [])) none=some x):=by unfold Hid;rw[hut];simp[selS,selC,okP,lastD,En.dot,hyx]
        clear hut hbst
        have y0':wr.cell? ⟨wo.heap.size,0,none⟩=some (.int .i64 y.dc):=Qa (i:=0) hbx
        have y1':wr.cell? ⟨wo.heap.size,1,none⟩=some (.int .i64 y.n):=Qa (i:=1) hbx
        have y0:=Qh (B:=wr.heap.size) y0' hs3
        have y1:=Qh (B:=wr.heap.size) y1' hs3
        clear y0' y1'
        have HBP:=hid hbp
        clear hbp hbx
        go_upto_region 8 with (fail)
        refine Qd wr.heap.size (by kernel_rfl) (by kernel_rfl) ?_
        repeat (go_big_quiet_step ((go_at_call 104;exact Calls.far_of (Nat.le_refl _) (QF ⟨_,_⟩ ⟨_,_⟩ _))))
        refine wpQuiet_nil ?_
        intro wq hbq
        have hqs:=hbq.size
        obtain⟨f1,f2,f3,f4⟩:=HE.out wq hbq
        have hfb:=HBP.out wq hbq
        have FB:=hid hfb
        obtain⟨c0,c1,c2,c3,z0,z1,z2,z3⟩:=bz4 hfb
        try simp only[bestC,List.getElem?_toArray,List.getElem?_cons_zero,List.getElem?_cons_succ]at c0 c1 c2 c3
        clear hfb
        go_wp2_with fail
        go_roundw
        case rel=>exact⟨k+1,by omega,by go_num,by rw[HX.out]<;>rfl,by rw[HX.out];simpa[bestC] using Qe (i:=3) (Qe (i:=2) (Qe (i:=1) (Qe (i:=0) FB.out _) _) _) _,(((((hbr.trans (hbq.mono (by omega))).setCell (Nat.le_refl _) _).setCell (Nat.le_refl _) _).setCell (Nat.le_refl _) _).setCell (Nat.le_refl _) _)⟩
        case measure=>simp[intOf];omega
     ·generalize hlst:lastD (es'++[z])=lst at *
      have HLST:=hid hlst
      obtain rfl:lst=some z.dot:=by rw[←hlst];simp[lastD]
      obtain⟨np,hnp,hne,hnp1⟩:∃ np:Nat,(es'++[z]).length=np+1/\(((np:Int)+1)==0)=false/\np<900000:=⟨es'.length,by simp,by simp;omega,by simp at hel;omega⟩
      obtain⟨A9,c9,hv9,_,_,hcz⟩:=hsp
      simp only[Value.slice.injEq]at hv9
      obtain⟨rfl,_,rfl⟩:=hv9
      obtain⟨bz,oz,rfl,hbz,hcz⟩:=hcz (by simp)
      have hzn:(es'++[z])[np]?=some z:=by
       have e:np=es'.length:=by simpa using hnp.symm
       rw[e];simp
      obtain⟨cz,⟨rfl,hokz⟩,_,huz⟩:=hcz np z hzn
      have w0:=Qh (B:=wr.heap.size) ((hbr.cell (p:=⟨bz,oz+np*4,none⟩) hbz).trans (huz 0 _ rfl)) (by omega)
      have w1:=Qh (B:=wr.heap.size) ((hbr.cell (p:=⟨bz,oz+np*4+1,none⟩) hbz).trans (huz 1 _ rfl)) (by omega)
      have hwr:IntKind.i64.wrap (((np+1:Nat):Int)-1)=(np:Int):=by rw[show (((np+1:Nat):Int))-1=(np:Int) by omega];exact IntWalk.i64_in _ (by omega)
      have hne2:((((np+1:Nat):Int))==0)=false:=by simp;omega
      clear hcz huz hzn
      rw[hnp]at r0 z0
      have HNP:=hid hnp
      clear hnp
      rcases hzx:Dt.lt ⟨z.dc,z.n⟩ ⟨x.dc,x.n⟩
      ·have HX:Hid ((l.take (k+1)).foldl (selS (some z.dot)) none=(l.take k).foldl (selS (some z.dot)) none):=by unfold Hid;rw[hut];simp[selS,selC,okP,En.dot,hzx]
       clear hut
       have HBP:=hid hbp
       clear hbp hbx
       go_upto_region 8 with (fail)
       refine Qd wr.heap.size (by kernel_rfl) (by kernel_rfl) ?_
       repeat (go_big_quiet_step ((go_at_call 104;exact Calls.far_of (Nat.le_refl _) (QF ⟨_,_⟩ ⟨_,_⟩ _))))
       refine wpQuiet_nil ?_
       intro wq hbq
       go_wp2_with fail
       go_roundw
       case rel=>exact⟨k+1,by omega,by go_num,by rw[HX.out]<;>rfl,by rw[HX.out];exact HBP.out _ hbq,hbr.trans (hbq.mono (by omega))⟩
       case measure=>simp[intOf];omega
      ·generalize hbst:(l.take k).foldl (selS (some z.dot)) none=bst at *
       cases bst with
       |none=>
        have HX:Hid ((l.take (k+1)).foldl (selS (some z.dot)) none=some x):=by unfold Hid;rw[hut];simp[selS,selC,okP,En.dot,hzx]
        clear hut hbst
        have HBP:=hid hbp
        clear hbp hbx
        go_upto_region 8 with (fail)
        refine Qd wr.heap.size (by kernel_rfl) (by kernel_rfl) ?_
        repeat (go_big_quiet_step ((go_at_call 104;exact Calls.far_of (Nat.le_refl _) (QF ⟨_,_⟩ ⟨_,_⟩ _))))
        refine wpQuiet_nil ?_
        intro wq hbq
        have hqs:=hbq.size
        obtain⟨f1,f2,f3,f4⟩:=HE.out wq hbq
        have hfb:=HBP.out wq hbq
        have FB:=hid hfb
        obtain⟨c0,c1,c2,c3,z0,z1,z2,z3⟩:=bz4 hfb
        try simp only[bestC,List.getElem?_toArray,List.getElem?_cons_zero,List.getElem?_cons_succ]at c0 c1 c2 c3
        clear hfb
        go_wp2_with fail
        go_roundw
        case rel=>exact⟨k+1,by omega,by go_num,by rw[HX.out]<;>rfl,by rw[HX.out];simpa[bestC] using Qe (i:=3) (Qe (i:=2) (Qe (i:=1) (Qe (i:=0) FB.out _) _) _) _,(((((hbr.trans (hbq.mono (by omega))).setCell (Nat.le_refl _) _).setCell (Nat.le_refl _) _).setCell (Nat.le_refl _) _).setCell (Nat.le_refl _) _)⟩
        case measure=>simp[intOf];omega
       |some y=>
        rcases hyx:Dt.lt ⟨x.dc,x.n⟩ ⟨y.dc,y.n⟩
        ·have HX:Hid ((l.take (k+1)).foldl (selS (some z.dot)) none=some y):=by unfold Hid;rw[hut];simp[selS,selC,okP,En.dot,hzx,hyx]
         clear hut hbst
         have y0':wr.cell? ⟨wo.heap.size,0,none⟩=some (.int .i64 y.dc):=Qa (i:=0) hbx
         have y1':wr.cell? ⟨wo.heap.size,1,none⟩=some (.int .i64 y.n):=Qa (i:=1) hbx
         have y0:=Qh (B:=wr.heap.size) y0' hs3
         have y1:=Qh (B:=wr.heap.size) y1' hs3
         clear y0' y1'
         have HBP:=hid hbp
         clear hbp hbx
         go_upto_region 8 with (fail)
         refine Qd wr.heap.size (by kernel_rfl) (by kernel_rfl) ?_
         repeat (go_big_quiet_step ((go_at_call 104;exact Calls.far_of (Nat.le_refl _) (QF ⟨_,_⟩ ⟨_,_⟩ _))))
         refine wpQuiet_nil ?_
         intro wq hbq
         go_wp2_with fail
         go_roundw
         case rel=>exact⟨k+1,by omega,by go_num,by rw[HX.out]<;>rfl,by rw[HX.out];exact HBP.out _ hbq,hbr.trans (hbq.mono (by omega))⟩
         case measure=>simp[intOf];omega
        ·have HX:Hid ((l.take (k+1)).foldl (selS (some z.dot)) none=some x):=by unfold Hid;rw[hut];simp[selS,selC,okP,En.dot,hzx,hyx]
         clear hut hbst
         have y0':wr.cell? ⟨wo.heap.size,0,none⟩=some (.int .i64 y.dc):=Qa (i:=0) hbx
         have y1':wr.cell? ⟨wo.heap.size,1,none⟩=some (.int .i64 y.n):=Qa (i:=1) hbx
         have y0:=Qh (B:=wr.heap.size) y0' hs3
         have y1:=Qh (B:=wr.heap.size) y1' hs3
         clear y0' y1'
         have HBP:=hid hbp
         clear hbp hbx
         go_upto_region 8 with (fail)
         refine Qd wr.heap.size (by kernel_rfl) (by kernel_rfl) ?_
         repeat (go_big_quiet_step ((go_at_call 104;exact Calls.far_of (Nat.le_refl _) (QF ⟨_,_⟩ ⟨_,_⟩ _))))
         refine wpQuiet_nil ?_
         intro wq hbq
         have hqs:=hbq.size
         obtain⟨f1,f2,f3,f4⟩:=HE.out wq hbq
         have hfb:=HBP.out wq hbq
         have FB:=hid hfb
         obtain⟨c0,c1,c2,c3,z0,z1,z2,z3⟩:=bz4 hfb
         try simp only[bestC,List.getElem?_toArray,List.getElem?_cons_zero,List.getElem?_cons_succ]at c0 c1 c2 c3
         clear hfb
         go_wp2_with fail
         go_roundw
         case rel=>exact⟨k+1,by omega,by go_num,by rw[HX.out]<;>rfl,by rw[HX.out];simpa[bestC] using Qe (i:=3) (Qe (i:=2) (Qe (i:=1) (Qe (i:=0) FB.out _) _) _) _,(((((hbr.trans (hbq.mono (by omega))).setCell (Nat.le_refl _) _).setCell (Nat.le_refl _) _).setCell (Nat.le_refl _) _).setCell (Nat.le_refl _) _)⟩
         case measure=>simp[intOf];omega
   ·obtain rfl:k=l.length:=by omega
    rw[List.take_of_length_le (Nat.le_refl _)]at hbx ⊢
    have hg3r:wr.heap[w.heap.size+1]?=some (.cells #[.slice Ae es.length ce,.slice none 0 0] 25 (0,0)):=(hbr.block _ (by omega)).trans hg3
    have hg2r:wr.heap[w.heap.size]?=some (.cells #[.slice none 0 0,.slice none 0 0] 25 (0,0)):=(hbr.block _ (by omega)).trans hg2
    generalize hbst:l.foldl (selS (lastD es)) none=bst at *
    obtain⟨n,rfl⟩:∃ n,gk=n+1:=⟨gk-1,by have:=hah.out;omega⟩
    have hgo':=hgo.out
    rw[Xw,show es.getLast?.map En.dot=lastD es from rfl,show bestE l (lastD es)=bst from hbst]at hgo'
    cases bst with
    |some y=>
     obtain⟨⟨x,hx,hx1,hx2⟩,hy2⟩:=X9 (show bestE l (lastD es)=some y from hbst)
     have hoky:y.Ok:=by
      obtain⟨j,hj⟩:=List.getElem?_of_mem hx
      obtain⟨b,off,_,hbB,hc⟩:=l3 (by rintro rfl;simp at hj)
      obtain⟨cs,⟨A7,c7,_,_,hok⟩,_,_⟩:=hc j _ hj
      exact hx2▸hok
     have hlt2:=zXo (show bestE l (lastD es)=some y from hbst)
     have HGO:Hid (Xw l n (es++[y])=Yh l):=hgo'
     have HAH:Hid (ahE l (lastD (es++[y]))<n):=by have:=hah.out;unfold Hid;simp only[lastD,List.getLast?_append,List.getLast?_singleton,Option.some_or,Option.map_some];omega
     have HLE:Hid ((es++[y]).length+ahE l (lastD (es++[y]))<=l.length):=by have:=hle.out;unfold Hid;simp only[lastD,List.getLast?_append,List.getLast?_singleton,Option.some_or,Option.map_some,List.length_append,List.length_singleton];omega
     have HL:Hid (es.length + [y].length<=Few):=by unfold Hid Few;simp;omega
     have HY:Hid (EnE y [.int .i64 y.dc,.int .i64 y.n,.string y.s,.int .i64 y.v]):=⟨rfl,hoky⟩
     have y0:wr.cell? ⟨wo.heap.size,0,none⟩=some (.int .i64 y.dc):=Qa (i:=0) hbx
     have y1:wr.cell? ⟨wo.heap.size,1,none⟩=some (.int .i64 y.n):=Qa (i:=1) hbx
     have y2:wr.cell? ⟨wo.heap.size,2,none⟩=some (.string y.s):=Qa (i:=2) hbx
     have y3:wr.cell? ⟨wo.heap.size,3,none⟩=some (.int .i64 y.v):=Qa (i:=3) hbx
     have z0:wr.cell? ⟨w.heap.size+1,0,none⟩=some (.slice Ae es.length ce):=Qa (i:=0) hg3r
     have HG3:=hid hg3r
     have HG2:=hid hg2r
     have hown':=hown.grow hbr
     clear hgo' hbst hbx hg3r hg2r hg3 hg2 hlt2 hx hx1 hx2 hy2 hoky l3 hsp hown hah hle hgo
     go_wp2_with (at_builtin;go_loud ((with_reducible refine Ql rfl (.tmp 70) (.tmp 72) _ rfl Xk (by decide) (by decide) (fun _ _ h=>h.one) rfl (hown'.alloc _) rfl (SlP.one (x:=y) HY.out rfl _ rfl) HL.out (by rw[World.size_alloc];omega) ?_);intro v1 w1 hown1 hb1 _;obtain⟨A1,c1,rfl⟩:=hown1.shape;have hb2:=((Below.refl (w.heap.size+2) wr).alloc (by omega) _).trans hb1;have hg31:=hid ((hb2.block (w.heap.size+1) (by omega)).trans HG3.out);have hg21:=hid ((hb2.block w.heap.size (by omega)).trans HG2.out);have hc1:w1.cell? ⟨w.heap.size+1,0,none⟩=some (.slice Ae es.length ce):=Qa (i:=0) hg31.out;have hf1:=Qb (i:=0) hg31.out))
     go_roundg n
     case measure=>omega
     case rel=>exact⟨es++[y],_,hown1.setOther (by simp) _,by simpa using Qe (i:=0) hg31.out _,(Below.heap_setCell _ _ _ _ (by simp)).trans hg21.out,by have:=hb2.size;simp[World.setCell];omega,((hB.trans (hb2.mono (by omega))).setCell (by simp) _),HGO,HAH,HLE⟩
    |none=>
     have HES:Hid (es=Yh l):=hgo'
     have z0:wr.cell? ⟨w.heap.size+1,0,none⟩=some (.slice Ae es.length ce):=Qa (i:=0) hg3r
     have hown':=hown.grow hbr
     clear hgo' hbst hbx hg3 hg2 hsp hown hah hle hgo
     have HG3:=hid hg3r
     have HG2:=hid hg2r
     clear hg3r hg2r z0 hbr
     go_wp2_with fail
     obtain⟨w1,rfl⟩:∃ w1:World,w1=wr:=⟨_,rfl⟩
     go_loopg [8] (l.length+1) (fun n vl wr=>zJn f l w w1 (.slice Ae es.length ce) n vl wr)
     case atStart=>exact⟨ByteArray.empty,[],_,rfl,OwnD.nil,HG3.out,HG2.out,fun _ _=>rfl,Nat.le_refl _,hB,rfl,by have:=qV7 l ByteArray.empty;unfold Hid;omega,by have:=qV7 l ByteArray.empty;unfold Hid;simp;omega⟩
     case round=>
      obtain⟨last,ks,vk,rfl,hownk,hg3,hg2,hkp,hsw,hBk,hgo,hah,hle⟩:=hrel
      have hszk:=hownk.lt
      have hkl:ks.length<=900000:=by have:=hle.out;omega
      obtain⟨Ak,ck,rfl⟩:=hownk.shape
      go_wp2_with fail
      obtain⟨wo,rfl⟩:∃ wo:World,wo=wr:=⟨_,rfl⟩
      go_loopw [9,77] (fun b i wr=>∃ (k:Nat),k<=l.length/\i=.int .i64 k/\b=.string ((l.take k).foldl (keyS last) ByteArray.empty)/\wr=wo) (fun _ i _=>l.length-(intOf i).toNat)
      case atStart=>exact⟨0,Nat.zero_le _,rfl,rfl,rfl⟩
      case round=>
       obtain⟨k,hk,rfl,rfl,rfl⟩:=hrel
       by_cases hlt:k<l.length
       ·obtain⟨⟨p,x⟩,hx⟩:∃ x,l[k]?=some x:=⟨_,List.getElem?_eq_getElem hlt⟩
        obtain⟨b,off,rfl,hbB,hc⟩:=l3 (by rintro rfl;simp at hlt)
        obtain⟨cs,⟨A7,c7,rfl,hp,hok⟩,_,hu⟩:=hc k _ hx
        have hut:=qKs hx last ByteArray.empty
        have e0:wr.cell? ⟨b,off+k*5,none⟩=some (.slice A7 p.length c7):=(hBk.cell hbB).trans (hu 0 _ rfl)
        generalize hbst:(l.take k).foldl (keyS last) ByteArray.empty=bst at *
        cases p with
        |nil=>
         have HX:Hid ((l.take (k+1)).foldl (keyS last) ByteArray.empty=bst):=by unfold Hid;rw[hut];simp[keyS,keyC]
         simp only[List.length_nil]at e0
         clear hu hx hc l3 hok hp hut hbst hg3 hg2
         go_wp2_with fail
         go_roundw
         case rel=>exact⟨k+1,by omega,by go_num,by rw[HX.out],trivial⟩
         case measure=>simp[intOf];omega
        |cons q qs=>
         obtain⟨A7',c7',hv7,m1,m2,m3⟩:=hp
         simp only[Value.slice.injEq]at hv7
         obtain⟨rfl,_,rfl⟩:=hv7
         obtain⟨b7,o7,rfl,hb7,hc7⟩:=m3 (by simp)
         obtain⟨cs7,⟨rfl,hq7⟩,_,hu7⟩:=hc7 0 q rfl
         have e7:wr.cell? ⟨b7,o7,none⟩=some (.string q):=(hBk.cell (p:=⟨b7,o7,none⟩) hb7).trans (by simpa using hu7 0 _ rfl)
         unfold Big at m2
         obtain⟨np,hnp,hnp0⟩:∃ np,np=(q :: qs).length/\0<np:=⟨_,rfl,by simp⟩
         rw[←hnp]at e0 m1 m2
         have t1:decide ((0:Int)<(np:Int))=true:=by simp;omega
         clear hu hx hc l3 hok hc7 hu7 m3 hnp hbst hg3 hg2
         have hkc:keyC last bst (q :: qs,x)=(ltS last q&&(decide (bst=ByteArray.empty)||ltS q bst)):=rfl
         rw[qYx]at hkc
         rcases g1:Op.bytesLess q.toList last.toList
         case true=>
          have HX:Hid ((l.take (k+1)).foldl (keyS last) ByteArray.empty=bst):=by unfold Hid;rw[hut,keyS,hkc,g1];simp
          clear hut hkc
          go_wp2_with fail
          go_roundw
          case rel=>exact⟨k+1,by omega,by go_num,by rw[HX.out],trivial⟩
          case measure=>simp[intOf];omega
         rcases g2:(q.toList==last.toList)
         case true=>
          have HX:Hid ((l.take (k+1)).foldl (keyS last) ByteArray.empty=bst):=by unfold Hid;rw[hut,keyS,hkc,g2];simp
          have g3:q.toList=last.toList:=by simpa using g2
          clear hut hkc
          go_wp2_with fail
          go_roundw
          case rel=>exact⟨k+1,by omega,by go_num,by rw[HX.out],trivial⟩
          case measure=>simp[intOf];omega
         have g3:¬q.toList=last.toList:=by simpa using g2
         have hkd:keyC last bst (q :: qs,x)=(decide (bst=ByteArray.empty)||ltS q bst):=by rw[hkc,g1,g2];rfl
         clear hkc
         rcases hbe:bst.toList.isEmpty
         ·have hbe3:¬bst.toList=[]:=by simpa using hbe
          have hbe':bst≠ByteArray.empty:=fun e=>by rw[e]at hbe;simp at hbe
          rcases hqb:Op.bytesLess q.toList bst.toList
          ·have HX:Hid ((l.take (k+1)).foldl (keyS last) ByteArray.empty=bst):=by unfold Hid;rw[hut,keyS,hkd,ltS,hqb];simp[hbe']
           clear hut hkd hbe'
           go_wp2_with fail
           go_roundw
           case rel=>exact⟨k+1,by omega,by go_num,by rw[HX.out],trivial⟩
           case measure=>simp[intOf];omega
          ·have HX:Hid ((l.take (k+1)).foldl (keyS last) ByteArray.empty=q):=by unfold Hid;rw[hut,keyS,hkd,ltS,hqb];simp
           clear hut hkd hbe'
           go_wp2_with fail
           go_roundw
           case rel=>exact⟨k+1,by omega,by go_num,by rw[HX.out],trivial⟩
           case measure=>simp[intOf];omega
         ·have hbe3:bst.toList=[]:=by simpa using hbe
          have hbe':bst=ByteArray.empty:=(QN _ _).1 (by simpa using hbe)
          have HX:Hid ((l.take (k+1)).foldl (keyS last) ByteArray.empty=q):=by unfold Hid;rw[hut,keyS,hkd];simp[hbe']
          clear hut hkd hbe'
          go_wp2_with fail
          go_roundw
          case rel=>exact⟨k+1,by omega,by go_num,by rw[HX.out],trivial⟩
          case measure=>simp[intOf];omega
       ·obtain rfl:k=l.length:=by omega
        rw[List.take_of_length_le (Nat.le_refl _),show l.foldl (keyS last) ByteArray.empty=bestK l last from rfl]
        obtain⟨n,rfl⟩:∃ n,gk=n+1:=⟨gk-1,by have:=hah.out;omega⟩
        have hgo':=hgo.out
        rw[ZX]at hgo'
        by_cases hq:bestK l last=ByteArray.empty
        ·rw[if_pos hq,List.append_nil]at hgo'
         have HKS:=hid hgo'
         have hqe:(bestK l last).toList.isEmpty=true:=by rw[hq];simp
         have hqb:(bestK l last).toList=[]:=by rw[hq];simp
         have c0:wr.cell? ⟨w.heap.size+1,0,none⟩=some (.slice Ae es.length ce):=Qa (i:=0) hg3
         have c1:wr.cell? ⟨w.heap.size+1,1,none⟩=some (.slice Ak ks.length ck):=Qa (i:=1) hg3
         have d0:wr.cell? ⟨w.heap.size,0,none⟩=some (.slice none 0 0):=Qa (i:=0) hg2
         have d1:wr.cell? ⟨w.heap.size,1,none⟩=some (.slice none 0 0):=Qa (i:=1) hg2
         have z0:=Qb (i:=0) hg2
         have z1:=Qb (i:=1) hg2
         have HG2:=hid hg2
         have HG3:=hid hg3
         clear hgo' hq hg2 hg3 hgo hah hle l3
         generalize bestK l last=q at *
         go_wp2_with fail
         have hW0:=Qe (i:=1) (Qe (i:=0) HG2.out (.slice Ae es.length ce)) (.slice Ak ks.length ck)
         have hKW:∀ b,w.heap.size+2<=b->((wr.setCell ⟨w.heap.size,0,none⟩ (.slice Ae es.length ce)).setCell ⟨w.heap.size,1,none⟩ (.slice Ak ks.length ck)).heap[b]?=wr.heap[b]?:=fun b hb=>(Below.heap_setCell _ _ _ _ (by simp;omega)).trans (Below.heap_setCell _ _ _ _ (by simp;omega))
         have hSW:((wr.setCell ⟨w.heap.size,0,none⟩ (.slice Ae es.length ce)).setCell ⟨w.heap.size,1,none⟩ (.slice Ak ks.length ck)).heap.size=wr.heap.size:=by simp[World.setCell]
         have hBW:Below w.heap.size w ((wr.setCell ⟨w.heap.size,0,none⟩ (.slice Ae es.length ce)).setCell ⟨w.heap.size,1,none⟩ (.slice Ak ks.length ck)):=(hBk.setCell (Nat.le_refl _) _).setCell (Nat.le_refl _) _
         generalize (wr.setCell ⟨w.heap.size,0,none⟩ (.slice Ae es.length ce)).setCell ⟨w.heap.size,1,none⟩ (.slice Ak ks.length ck)=W at *
         have r0:W.cell? ⟨w.heap.size,0,none⟩=some (.slice Ae es.length ce):=(Qa (i:=0) hW0).trans (by simp)
         have r1:W.cell? ⟨w.heap.size,1,none⟩=some (.slice Ak ks.length ck):=(Qa (i:=1) hW0).trans (by simp)
         clear c0 c1 d0 d1 z0 z1 hqe hqb
         refine bodyPost_ret (v:=.agg #[.slice Ae es.length ce,.slice Ak ks.length ck]) (by simp[results,Tryz.results57,go_sem,r0,r1]) rfl ⟨_,_,rfl,?_,hBW⟩
         rw[←HES.out,←HKS.out,ZH]
         refine⟨(hown'.sla (by unfold Big;omega)).up (fun b hb=>(hKW b hb.1).trans (hkp b ⟨hb.1,hb.2.1⟩)) (fun b hb=>⟨by have:=hb.1;omega,by have:=hb.2.1;omega⟩) (fun _ _ _ h=>h),(OwnP.sla hownk (by unfold Big;omega)).up (fun b hb=>hKW b (by have:=hb.1;omega)) (fun b hb=>⟨by have:=hb.1;omega,by have:=hb.2.1;omega⟩) ?_⟩
         intro x _ cs hx
         exact KdA.mon.up (fun b hb=>hKW b (by have:=hb.1;omega)) (fun b hb=>⟨by have:=hb.1;omega,by have:=hb.2.1;omega⟩) hx
        ·rw[if_neg hq]at hgo'
         have hlt2:=zXp hq
         obtain⟨⟨x,hx,qs,hxe⟩,_⟩:=Ja hq
         have IHQ:=hid (IH.out x hx _ _ hxe)
         generalize hqd:bestK l last=q at *
         have hqb:(q.toList==([]:List UInt8))=false:=by simp;exact fun e=>hq ((QN _ _).1 (by simpa using e))
         have hqe:q.toList.isEmpty=false:=by simpa using hqb
         have hqs:q.size<=Big:=by
          obtain⟨j,hj⟩:=List.getElem?_of_mem hx
          obtain⟨b,off,_,hbB,hc⟩:=l3 (by rintro rfl;simp at hj)
          obtain⟨cs,⟨A7,c7,_,⟨_,_,_,_,_,hp⟩,hok⟩,_,_⟩:=hc j _ hj
          obtain⟨b7,o7,_,_,hc7⟩:=hp (by rw[hxe];simp)
          obtain⟨cs7,⟨_,hq7⟩,_,_⟩:=hc7 0 q (by rw[hxe];rfl)
          exact hq7
         have HQS:=hid hqs
         have HGO:Hid ((ks++[(q,f (Qu l q))])++ZX f l n q=ZX f l (l.length+1) ByteArray.empty):=by unfold Hid;rw[←hgo'];simp
         have HAH:Hid (ahK l q<n):=by have:=hah.out;unfold Hid;omega
         have HLE:Hid ((ks++[(q,f (Qu l q))]).length+ahK l q<=l.length):=by have:=hle.out;unfold Hid;simp;omega
         have HL:Hid (ks.length + [(q,f (Qu l q))].length<=Few):=by unfold Hid Few;simp;omega
         have HG3:=hid hg3
         have HG2:=hid hg2
         have HKP:=hid hkp
         have HGW:Hid (∀ W,Below wr.heap.size wr W->W.heap[w.heap.size+1]?=some (.cells #[.slice Ae es.length ce,.slice Ak ks.length ck] 25 (0,0))):=fun W hW=>(hW.block _ (by omega)).trans hg3
         have HS:Hid (∀ w',Below wr.heap.size wr w'->w'.cell? ⟨w.heap.size+1,1,none⟩=some (.slice Ak ks.length ck)):=fun w' hb'=>(hb'.cell (p:=⟨w.heap.size+1,1,none⟩) (by simp;omega)).trans (Qa (i:=1) hg3)
         clear l3 hgo' hlt2 hx hxe hq hqs hg3 hg2 hkp hgo hah hle
         have HOWN:Hid (∀ W,Below wr.heap.size wr W->OwnD W w1.heap.size 106 3 KdA (fun b=>w1.heap.size<=b) (.slice Ak ks.length ck) ks):=fun W hW=>hownk.grow KdA.mon hW
         have HUL:Hid ((Qu l q).length<=Big):=by have:=Ym l q;unfold Hid Big;omega
         have HW0:Hid (Below w.heap.size w wr):=hBk
         have hw1:w.heap.size+1<w1.heap.size:=by omega
         clear hownk hBk
         go_upto_region 23 with (fail)
         have z1:=HS.out wr (Below.refl _ _)
         have z2:=HS.out wr.drew ((Below.refl _ _).drew)
         go_region_law
          (first
              |(go_simp;go_at_call 105;go_loud ((refine (Jz l q (fun _=>True) _ _ (HLW.out _ HW0.out.drew) hN).mono ?_);rintro e w2 ⟨vU,rfl,hU,hb2⟩;have hb2:Below wr.heap.size wr w2:=((Below.refl wr.heap.size wr).drew).trans hb2;have hc2:=HS.out w2 hb2))
              |(go_simp;go_at_call 57;go_loud ((refine (IHQ.out _ _ ((hU.sl LfA.mon HUL.out).imp (Below.refl _ _) (Nat.le_refl _) (fun _ _ _ hx=>LfA.mon.up (fun _ _=>rfl) (fun b hb=>hb.2) hx))).mono ?_);rintro e w3 ⟨ve3,vk3,rfl,hrd,hb3⟩;obtain⟨Av,nv,Aw,nw,rfl,rfl⟩:=Qj hrd;have hs2:=hb2.size;have hb3':=hid (hb2.trans (hb3.mono hb2.size));have hc3:=HS.out w3 hb3'.out;have hc3a:=fun (o:Obj)=>HS.out (w3.alloc o) (hb3'.out.alloc hb3'.out.size o)))
              |(have hQ3:=hb3';go_loud ((refine Xh (v:=.slice Ak ks.length ck) rfl (.tmp 125) (.tmp 132) _ rfl KdA.mon eiKid (by decide) (by decide) rfl (HOWN.out _ (hb3'.out.alloc hb3'.out.size _)) rfl (qXn hrd HQS.out (fun b hb=>⟨hb.2,by have:=hb.1;simp only[World.size_drew]at *;omega,by rw[World.size_alloc];have:=hb.2;omega,fun e=>by have:=hszk b e;have:=hb.1;simp only[World.size_drew]at *;omega⟩) _ (by rw[World.size_alloc];omega)) HL.out (by rw[World.size_alloc];have:=hb3'.out.size;omega) ?_);intro v1 w4 hown4 hb4 _ _;have hsh4:∃ A c,v1=.slice A (ks++[(q,f (Qu l q))]).length c:=OwnP.shape hown4;obtain⟨A1,c1,hv1⟩:=hsh4;subst hv1;have hg34:=hid ((hb4.block _ hw1).trans (HGW.out _ (hb3'.out.alloc hb3'.out.size _)));have hc4:w4.cell? ⟨w.heap.size+1,1,none⟩=some (.slice Ak ks.length ck):=Qa (i:=1) hg34.out;have hf4:=Qb (i:=1) hg34.out)))
         all_goals go_wp2_with fail
         all_goals (go_roundg n;(case measure=>omega);(case rel=>
          have hW:=hb3'.out.alloc hb3'.out.size (.cells #[.string q,.slice Av (f (Qu l q)).es.length nv,.slice Aw (f (Qu l q)).ks.length nw] 106)
          have hwo:=hsw
          exact⟨q,ks++[(q,f (Qu l q))],_,rfl,OwnD.setOther hown4 KdA.mon hw1 (by simp;omega) _,by simpa using Qe (i:=1) hg34.out _,
           (Below.heap_setCell _ _ _ _ (by simp)).trans ((hb4.block _ (by omega)).trans ((hW.block _ (by omega)).trans HG2.out)),
           fun b hb=>(Below.heap_setCell _ _ _ _ (by have:=hb.1;simp;omega)).trans ((hb4.block _ hb.2).trans ((hW.block _ (by have:=hb.2;omega)).trans (HKP.out b hb))),
           by have:=hb4.size;have:=hW.size;simp[World.setCell]at *;omega,(((HW0.out.trans (hW.mono (by omega))).trans (hb4.mono (by omega))).setCell (by simp) _),HGO,HAH,HLE⟩))
theorem JA:∀ (d:Nat) (l:List Lf) (vl:Value) (w:World),(∀ x∈l,x.1.length<=d)->SlP w w.heap.size 5 (LfA w (fun b=>b<w.heap.size)) vl l->l.length<=900000 ->
  Calls Tryz.prog 57 #[vl] w fun e w'=>∃ ve vk,e=.returned (.agg #[ve,vk])/\(JQ d l).rda w' (fun b=>w.heap.size<=b/\b<w'.heap.size) ve vk/\Below w.heap.size w w'
 |0,l,vl,w,hd,h,hN=>qQq _ l vl w (fun x hx q qs hq=>absurd (hd x hx) (by rw[hq];simp)) h hN
 |d+1,l,vl,w,hd,h,hN=>qQq _ l vl w (fun x hx q qs hq vl w h=>JA d _ vl w (fun y hy=>by
   unfold Qu at hy
   obtain⟨z,hz,hzy⟩:=List.mem_filterMap.1 hy
   obtain⟨p,e⟩:=z
   have:=hd _ hz
   cases p with
   |nil=>cases hzy
   |cons u us=>
    simp only[Yl]at hzy
    split at hzy
    ·cases hzy;simp at this;exact this
    ·cases hzy) h (Nat.le_trans (Ym l q) hN)) h hN
theorem qQ1 {α:Type}{P:Program}{ops:Array Oper}{o:Oper}{a:Act}{K:Act->World->Prop}{Q:Exit->Act->World->Prop}{F:Prop}{w:World}(hg:o.guard=none)(s x:Operand)(t:TypeId)
  (hop:o.op=.call { callee:=.builtin .append,args:=#[s,x],argTypes:=#[t,t] }){e:TypeId}{sz bytes base B:Nat}{E:α->List Value->Prop}{v sv:Value}{xs ys:List α}(hi:Qs P t e sz bytes) (hsz:0<sz) (hby:bytes<=1000)
  (hone:∀ x cs,E x cs->∀ u∈cs,u.oneCell'=true) (hs:a.eval s=v) (hown:OwnP w base e sz E v xs) (hx:a.eval x=sv) (hys:SlP w B sz E sv ys) (hl:xs.length+ys.length<=Few) (hbase:base<=w.heap.size)
  (h:∀ v' w',OwnP w' base e sz E v' (xs++ys)->Below base w w'->w.grownBy w' v.ownBlock->(v'.ownBlock=v.ownBlock∨v'.ownBlock=some w.heap.size)->K (a.put o.dst v') w') :
  if Region.wanted o (yielded ops a.tmps)=true then Oper.wp P o a w K Q else F:=by
 have hw:Region.wanted o (yielded ops a.tmps)=true:=by simp[Region.wanted,hg]
 rw[if_pos hw]
 unfold Few at hl
 obtain⟨v',w',r1,r2,r3,r4⟩:=VP (P:=P) (ty:=o.type) hi hsz hone hown hys (Nat.le_trans (Nat.mul_le_mul hl hby) (by omega)) (by unfold Big;omega) hbase
 unfold Oper.wp execOp
 simp only[hop,resolve,invoke,builtin,Sem.run_bind,Sem.run_pure,Result.andThen_ok,List.map_toArray,List.map_cons,List.map_nil,hs,hx,r1]
 exact h v' w' r2 ((Below.refl base w).grown r3 hbase fun g hg=>(hown.lt g hg).1) r3 r4
structure Rows4 {α:Type}(w:World)(base Bp:Nat)(T e:TypeId)(sz:Nat)(E:α->List Value->Prop)(vs:Nat->Value)(ls:Nat->List α):Prop where
 arr:w.heap[Bp]?=some (.cells #[vs 0,vs 1,vs 2,vs 3] T (0,0))
 lo:Bp<base
 own:∀ i,i<4->OwnP w base e sz E (vs i) (ls i)
 apart:∀ i j,i<4->j<4->i≠j->∀ g,(vs i).ownBlock=some g->(vs j).ownBlock≠some g
section
variable {α:Type}{w w':World}{base Bp:Nat}{T e:TypeId}{sz:Nat}{E:α->List Value->Prop}{vs:Nat->Value}{ls:Nat->List α}
theorem ZP {β:Type}(f:Nat->β){d:Nat}(h:d<4):(#[f 0,f 1,f 2,f 3]:Array β)[d]?=some (f d):=by
 match d,h with
 |0,_=>rfl
 |1,_=>rfl
 |2,_=>rfl
 |3,_=>rfl
theorem V0 {β:Type}(f:Nat->β){d:Nat}(h:d<4)(x:β):(#[f 0,f 1,f 2,f 3]:Array β).setIfInBounds d x =
  #[(fun i=>if i=d then x else f i) 0,(fun i=>if i=d then x else f i) 1,(fun i=>if i=d then x else f i) 2,(fun i=>if i=d then x else f i) 3]:=by
 match d,h with
 |0,_=>simp
 |1,_=>simp
 |2,_=>simp
 |3,_=>simp
theorem Rows4.start (h:w.heap[Bp]?=some (.cells #[.slice none 0 0,.slice none 0 0,.slice none 0 0,.slice none 0 0] T (0,0)))(hlo:Bp<base):Rows4 w base Bp T e sz E (fun _=>.slice none 0 0) (fun _=>([]:List α)):=
 ⟨h,hlo,fun _ _=>OwnP.nil,fun _ _ _ _ _ g hg=>by cases hg⟩
theorem Rows4.at (h:Rows4 w base Bp T e sz E vs ls){d:Nat}(hd:d<4):w.cell? ⟨Bp,d,none⟩=some (vs d):=(Qa h.arr).trans (ZP vs hd)
theorem Rows4.frz (h:Rows4 w base Bp T e sz E vs ls)(d:Nat):w.frozen? ⟨Bp,d,none⟩=false:=Qb h.arr
theorem Rows4.grow (h:Rows4 w base Bp T e sz E vs ls)(hb:Below w.heap.size w w'):Rows4 w' base Bp T e sz E vs ls:=
 ⟨(hb.block _ (Array.getElem?_eq_some_iff.1 h.arr).1).trans h.arr,h.lo,fun i hi=>(h.own i hi).grow hb,h.apart⟩
theorem Rows4.same (h:Rows4 w base Bp T e sz E vs ls)(hb:w'.heap=w.heap):Rows4 w' base Bp T e sz E vs ls:=
 ⟨by rw[hb];exact h.arr,h.lo,fun i hi=>(h.own i hi).keep fun _ _=>by rw[hb],h.apart⟩
theorem Rows4.sl (h:Rows4 w base Bp T e sz E vs ls){d:Nat}(hd:d<4)(hl:(ls d).length<=Big):SlP w w.heap.size sz E (vs d) (ls d):=(h.own d hd).sl hl
theorem Rows4.put (h:Rows4 w base Bp T e sz E vs ls){d:Nat}(hd:d<4){v':Value}{xs:List α}(ho:OwnP w' base e sz E v' xs)(hg:w.grownBy w' (vs d).ownBlock)(hv:v'.ownBlock=(vs d).ownBlock∨v'.ownBlock=some w.heap.size) :
  Rows4 (w'.setCell ⟨Bp,d,none⟩ v') base Bp T e sz E (fun i=>if i=d then v' else vs i) (fun i=>if i=d then xs else ls i):=by
 have hBp:w'.heap[Bp]?=some (.cells #[vs 0,vs 1,vs 2,vs 3] T (0,0)):=
  (hg.block Bp (Array.getElem?_eq_some_iff.1 h.arr).1 (fun e=>by have:=(h.own d hd).lt Bp e.symm;have:=h.lo;omega)).trans h.arr
 refine⟨?_,h.lo,fun i hi=>?_,fun i j hi hj hij g hgi=>?_⟩
 ·rw[Qe hBp v',V0 vs hd v']
 ·by_cases e:i=d
  ·subst e;simp only[if_pos];exact ho.setOther h.lo v'
  ·simp only[if_neg e]
   refine ((h.own i hi).keep fun g hgi=>?_).setOther h.lo v'
   exact hg.block g ((h.own i hi).lt g hgi).2 (fun e'=>h.apart i d hi hd e g hgi e'.symm)
 ·by_cases e:i=d
  ·subst e
   simp only[if_pos]at hgi
   rw[if_neg (fun e'=>hij e'.symm)]
   intro hgj
   rcases hv with hv|hv
   ·rw[hv]at hgi;exact h.apart i j hi hj hij g hgi hgj
   ·rw[hv]at hgi;cases hgi;exact absurd ((h.own j hj).lt _ hgj).2 (Nat.lt_irrefl _)
  ·simp only[if_neg e]at hgi
   by_cases e2:j=d
   ·subst e2
    rw[if_pos rfl]
    intro hgj
    rcases hv with hv|hv
    ·rw[hv]at hgj;exact h.apart i j hi hj hij g hgi hgj
    ·rw[hv]at hgj;cases hgj;exact absurd ((h.own i hi).lt _ hgi).2 (Nat.lt_irrefl _)
   ·rw[if_neg e2];exact h.apart i j hi hj hij g hgi
end
theorem SlA.shape {α:Type}{w:World}{ok:Nat->Prop}{sz:Nat}{E:α->List Value->Prop}{v:Value}{xs:List α}(h:SlA w ok sz E v xs):∃ A c,v=.slice A xs.length c:=by
 obtain⟨A,c,rfl,_⟩:=h;exact⟨A,c,rfl⟩
theorem SlA.slp {α:Type}{w w':World}{ok:Nat->Prop}{sz:Nat}{E:α->List Value->Prop}{v:Value}{xs:List α}(h:SlA w ok sz E v xs)(hk:∀ b,ok b->b<w.heap.size)(hb:Below w.heap.size w w'):SlP w' w'.heap.size sz E v xs:=
 Zn.2 (h.up (fun b hb'=>hb.block b (hk b hb')) (fun b hb'=>Nat.lt_of_lt_of_le (hk b hb') hb.size) (fun _ _ _ h=>h))
theorem QI {w w':World}{ok:Nat->Prop}{t:Tr}{ve vk:Value}(h:t.rda w ok ve vk)(hk:∀ b,ok b->b<w.heap.size)(hb:Below w.heap.size w w'):t.rd w' w'.heap.size ve vk:=
 (qYw t ve vk).2 (Qp (fun b hb'=>hb.block b (hk b hb')) (fun b hb'=>Nat.lt_of_lt_of_le (hk b hb') hb.size) t ve vk h)
end Go.Proofs.YtidebdbjekijkaaGreat
