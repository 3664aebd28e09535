/- What the laws need. No condition but those that each lemma states. -/
import Derived.Deep.RegionLaw
import Derived.Sort.Walk0
import Derived.Test.YtbcoelggdikipaaGreatUw2
import Derived.Test.YtbcoelggdikipaaGreatUw1
set_option maxRecDepth 100000
set_option maxHeartbeats 8000000
set_option linter.unusedSimpArgs false
namespace Go.Proofs.YtbcoelggdikipaaGreat
open Go.RowKit
open Classical in
noncomputable def trEq (s t:Tr):Bool:=decide (s=t)
theorem VI {s t:Tr}:trEq s t=true↔s=t:=by simp[trEq]
theorem Jl {s t:Tr}:trEq s t=false↔s≠t:=by simp[trEq]
theorem Kq (s:Tr):∀ (t:Tr) (w:World) (ve vk ue uk:Value),s.rd w w.heap.size ve vk->t.rd w w.heap.size ue uk ->
  Calls Tryz.prog 39 #[.agg #[ve,vk],.agg #[ue,uk]] w fun e w'=>e=.returned (.bool (trEq s t))/\Below w.heap.size w w':=by
 induction s using Tr.ind with
 |h es ks ih=>
 rintro⟨es',ks'⟩ w ve vk ue uk h h'
 rw[QA]at h h'
 obtain⟨⟨A1,n1,rfl,b1,b2,b3⟩,⟨A2,n2,rfl,c1,c2,c3⟩⟩:=h
 obtain⟨⟨A3,n3,rfl,d1,d2,d3⟩,⟨A4,n4,rfl,f1,f2,f3⟩⟩:=h'
 unfold Big at b2 c2 d2 f2
 by_cases hl:es.length=es'.length
 case neg=>
  have hl':((es.length:Int) != (es'.length:Int))=true:=by simp;omega
  have HL:=hid hl
  clear hl
  go_enter Tryz.func39,Tryz.ntmps39
  go_wp2_with fail
  go_ret
  refine⟨Qf ?_,by go_grown⟩
  rw[eq_comm,Jl]
  rintro e;cases e;exact HL.out rfl
 by_cases hm:ks.length=ks'.length
 case neg=>
  have hl':((es.length:Int) != (es'.length:Int))=false:=by simp[hl]
  have hm':((ks.length:Int) != (ks'.length:Int))=true:=by simp;omega
  have HL:=hid hm
  clear hl hm
  go_enter Tryz.func39,Tryz.ntmps39
  go_wp2_with fail
  go_ret
  refine⟨Qf ?_,by go_grown⟩
  rw[eq_comm,Jl]
  rintro e;cases e;exact HL.out rfl
 have hl':((es.length:Int) != (es'.length:Int))=false:=by simp[hl]
 have hm':((ks.length:Int) != (ks'.length:Int))=false:=by simp[hm]
 have HL:=hid hl
 have HM:=hid hm
 clear hl hm
 go_enter Tryz.func39,Tryz.ntmps39
 go_wp2_with fail
 go_loopw [26] (fun i wr=>∃ k:Nat,k<=es.length/\i=.int .i64 k/\Hid (es.take k=es'.take k) /\
   Below (w.heap.size+1+1) ((w.alloc (.cells #[.slice A1 es.length n1,.slice A2 ks.length n2] 25)).alloc (.cells #[.slice A3 es'.length n3,.slice A4 ks'.length n4] 25)) wr) (fun i _=>es.length-(intOf i).toNat)
 case atStart=>exact⟨0,Nat.zero_le _,rfl,rfl,Below.refl _ _⟩
 case round=>
  obtain⟨k,hk,rfl,hrel,hb⟩:=hrel
  have hsz:=hb.size
  simp only[World.size_alloc]at hsz
  have hB0:Below w.heap.size w wr:=(((Below.refl _ w).alloc (Nat.le_refl _) _).alloc (by simp) _).trans (hb.mono (by omega))
  have hs0:wr.cell? ⟨w.heap.size,0,none⟩=some (.slice A1 es.length n1):=by rw[hb.cell (p:=⟨w.heap.size,0,none⟩) (by simp;omega)];rw[World.cell?_alloc_past _ _ _ (by simp),World.cell?_alloc_new];rfl
  have hs1:wr.cell? ⟨w.heap.size,1,none⟩=some (.slice A2 ks.length n2):=by rw[hb.cell (p:=⟨w.heap.size,1,none⟩) (by simp;omega)];rw[World.cell?_alloc_past _ _ _ (by simp),World.cell?_alloc_new];rfl
  have ht0:wr.cell? ⟨w.heap.size+1,0,none⟩=some (.slice A3 es'.length n3):=by rw[hb.cell (p:=⟨w.heap.size+1,0,none⟩) (by simp),World.cell?_alloc_at _ _ _ _ (by simp)];rfl
  have ht1:wr.cell? ⟨w.heap.size+1,1,none⟩=some (.slice A4 ks'.length n4):=by rw[hb.cell (p:=⟨w.heap.size+1,1,none⟩) (by simp),World.cell?_alloc_at _ _ _ _ (by simp)];rfl
  by_cases hlt:k<es.length
  ·have hlt2:k<es'.length:=by have:=HL.out;omega
   obtain⟨x,hx⟩:∃ x,es[k]?=some x:=⟨_,List.getElem?_eq_getElem hlt⟩
   obtain⟨y,hy⟩:∃ y,es'[k]?=some y:=⟨_,List.getElem?_eq_getElem hlt2⟩
   obtain⟨ba,oa,rfl,hbA,hc⟩:=b3 (by rintro rfl;simp at hlt)
   obtain⟨bb,ob,rfl,hbB,hd⟩:=d3 (by rintro rfl;simp at hlt2)
   obtain⟨cs,⟨rfl,hok⟩,_,hu⟩:=hc k _ hx
   obtain⟨ds,⟨rfl,hok2⟩,_,hv⟩:=hd k _ hy
   have q0:=Qh (B:=wr.heap.size) ((hB0.cell hbA).trans (hu 0 _ rfl)) (by omega)
   have q1:=Qh (B:=wr.heap.size) ((hB0.cell hbA).trans (hu 1 _ rfl)) (by omega)
   have q2:=Qh (B:=wr.heap.size) ((hB0.cell hbA).trans (hu 2 _ rfl)) (by omega)
   have q3:=Qh (B:=wr.heap.size) ((hB0.cell hbA).trans (hu 3 _ rfl)) (by omega)
   have p0:=Qh (B:=wr.heap.size) ((hB0.cell hbB).trans (hv 0 _ rfl)) (by omega)
   have p1:=Qh (B:=wr.heap.size) ((hB0.cell hbB).trans (hv 1 _ rfl)) (by omega)
   have p2:=Qh (B:=wr.heap.size) ((hB0.cell hbB).trans (hv 2 _ rfl)) (by omega)
   have p3:=Qh (B:=wr.heap.size) ((hB0.cell hbB).trans (hv 3 _ rfl)) (by omega)
   simp only[Nat.add_zero]at q0 p0
   have r0:=Qh (B:=wr.heap.size) hs0 (by omega)
   have r1:=Qh (B:=wr.heap.size) ht0 (by omega)
   have HT:=hid (ZY hx hy hrel.out)
   have HXY:Hid (es=es'->x=y):=fun e=>by subst e;rw[hx]at hy;exact Option.some.inj hy
   have gg:=qJe
   have nn:=qU9 x y
   have hi1:((k:Int))<(es.length:Int):=by omega
   have hi2:((k:Int))<(es'.length:Int):=by omega
   clear hu hv hc hd b3 d3 hx hy hok hok2
   rcases hxy:decide (x=y)
   ·have hne:x≠y:=by simpa using hxy
    go_upto_region 6 with (fail)
    refine Qc wr.heap.size (by kernel_rfl) (by kernel_rfl) ?_
    repeat (go_big_quiet_step (fail))
    refine wpQuiet_nil ?_
    intro wq hbq
    go_wp2_with fail
    go_ret
    refine⟨Qf ?_,hB0.trans (hbq.mono (by omega))⟩
    rw[eq_comm,Jl]
    rintro e;cases e;exact hne (HXY.out rfl)
   ·have hE:=hid (of_decide_eq_true hxy)
    go_upto_region 6 with (fail)
    refine Qc wr.heap.size (by kernel_rfl) (by kernel_rfl) ?_
    repeat (go_big_quiet_step (fail))
    refine wpQuiet_nil ?_
    intro wq hbq
    go_wp2_with fail
    go_roundw
    case rel=>exact⟨k+1,by omega,by go_num,HT.out.2 hE.out,hb.trans (hbq.mono (by omega))⟩
    case measure=>simp[intOf];omega
  ·obtain rfl:k=es.length:=by omega
   have HE:Hid (es=es'):=by
    have h1:=hrel.out
    rw[List.take_of_length_le (Nat.le_refl _),List.take_of_length_le (by rw[HL.out];exact Nat.le_refl _)]at h1
    exact h1
   clear hrel hs0 ht0 hB0 b3 d3 hlt
   go_wp2_with fail
   clear hs1 ht1 hsz
   obtain⟨wo,rfl⟩:∃ wo:World,wo=wr:=⟨_,rfl⟩
   go_loopw [44] (fun i wr=>∃ k:Nat,k<=ks.length/\i=.int .i64 k/\Hid (ks.take k=ks'.take k) /\
    Below (w.heap.size+1+1) ((w.alloc (.cells #[.slice A1 es.length n1,.slice A2 ks.length n2] 25)).alloc (.cells #[.slice A3 es'.length n3,.slice A4 ks'.length n4] 25)) wr) (fun i _=>ks.length-(intOf i).toNat)
   case atStart=>exact⟨0,Nat.zero_le _,rfl,rfl,hb⟩
   case round=>
    clear hb
    obtain⟨k,hk,rfl,hrel,hb⟩:=hrel
    have hsz:=hb.size
    simp only[World.size_alloc]at hsz
    have hB0:Below w.heap.size w wr:=(((Below.refl _ w).alloc (Nat.le_refl _) _).alloc (by simp) _).trans (hb.mono (by omega))
    by_cases hlt:k<ks.length
    ·have hlt2:k<ks'.length:=by have:=HM.out;omega
     obtain⟨⟨key,s1⟩,hx⟩:∃ x,ks[k]?=some x:=⟨_,List.getElem?_eq_getElem hlt⟩
     obtain⟨⟨key',t1⟩,hy⟩:∃ y,ks'[k]?=some y:=⟨_,List.getElem?_eq_getElem hlt2⟩
     obtain⟨ba,oa,rfl,hbA,hc⟩:=c3 (by rintro rfl;simp at hlt)
     obtain⟨bb,ob,rfl,hbB,hd⟩:=f3 (by rintro rfl;simp at hlt2)
     obtain⟨cs,⟨v1,v2,rfl,_,hrs⟩,_,hu⟩:=hc k _ hx
     obtain⟨ds,⟨u1,u2,rfl,_,hrt⟩,_,hv⟩:=hd k _ hy
     have hs1:wr.cell? ⟨w.heap.size,1,none⟩=some (.slice (some ⟨ba,oa,none⟩) ks.length n2):=by rw[hb.cell (p:=⟨w.heap.size,1,none⟩) (by simp;omega)];rw[World.cell?_alloc_past _ _ _ (by simp),World.cell?_alloc_new];rfl
     have ht1:wr.cell? ⟨w.heap.size+1,1,none⟩=some (.slice (some ⟨bb,ob,none⟩) ks'.length n4):=by rw[hb.cell (p:=⟨w.heap.size+1,1,none⟩) (by simp),World.cell?_alloc_at _ _ _ _ (by simp)];rfl
     have q0:=Qh (B:=wr.heap.size) ((hB0.cell hbA).trans (hu 0 _ rfl)) (by omega)
     have q1:=Qh (B:=wr.heap.size) ((hB0.cell hbA).trans (hu 1 _ rfl)) (by omega)
     have q2:=Qh (B:=wr.heap.size) ((hB0.cell hbA).trans (hu 2 _ rfl)) (by omega)
     have p0:=Qh (B:=wr.heap.size) ((hB0.cell hbB).trans (hv 0 _ rfl)) (by omega)
     have p1:=Qh (B:=wr.heap.size) ((hB0.cell hbB).trans (hv 1 _ rfl)) (by omega)
     have p2:=Qh (B:=wr.heap.size) ((hB0.cell hbB).trans (hv 2 _ rfl)) (by omega)
     simp only[Nat.add_zero]at q0 p0
     have r0:=Qh (B:=wr.heap.size) hs1 (by omega)
     have r1:=Qh (B:=wr.heap.size) ht1 (by omega)
     have HT:=hid (ZY hx hy hrel.out)
     have HXY:Hid (ks=ks'->(key,s1)=(key',t1)):=fun e=>by subst e;rw[hx]at hy;exact Option.some.inj hy
     have hmem:(key,s1)∈ks:=List.mem_of_getElem? hx
     have HRS:Hid (∀ w',Below wr.heap.size wr w'->s1.rd w' w'.heap.size v1 v2):=fun w' hb'=>Qi (hB0.trans (hb'.mono (by omega))) (by have:=hb'.size;omega) _ _ _ hrs
     have HRT:Hid (∀ w',Below wr.heap.size wr w'->t1.rd w' w'.heap.size u1 u2):=fun w' hb'=>Qi (hB0.trans (hb'.mono (by omega))) (by have:=hb'.size;omega) _ _ _ hrt
     have hi1:((k:Int))<(ks.length:Int):=by omega
     have hi2:((k:Int))<(ks'.length:Int):=by omega
     clear hu hv hc hd c3 f3 hx hy hs1 ht1 hrs hrt
     rcases hxy:(key.toList==key'.toList)
     ·have hne:key≠key':=fun e=>by rw[e]at hxy;simp at hxy
      have hxy2:(key.toList != key'.toList)=true:=by simp[bne,hxy]
      go_upto_region 12 with (fail)
      refine Qc wr.heap.size (by kernel_rfl) (by kernel_rfl) ?_
      repeat (go_big_quiet_step (fail))
      refine wpQuiet_nil ?_
      intro wq hbq
      go_wp2_with fail
      go_ret
      refine⟨Qf ?_,hB0.trans (hbq.mono (by omega))⟩
      rw[eq_comm,Jl]
      rintro e;cases e;exact hne (Prod.mk.inj (HXY.out rfl)).1
     have hE:=hid ((QM key key').1 (by simpa using hxy))
     have hxy2:(key.toList != key'.toList)=false:=by simp[bne,hxy]
     rcases hst:trEq s1 t1
     ·have hne:=Jl.1 hst
      go_upto_region 12 with (fail)
      refine Qc wr.heap.size (by kernel_rfl) (by kernel_rfl) ?_
      repeat (go_big_quiet_step ((go_at_call 39;exact Calls.far_all (Nat.le_refl _) (fun w' hb'=>ih key s1 hmem t1 w' _ _ _ _ (HRS.out w' hb') (HRT.out w' hb')))))
      refine wpQuiet_nil ?_
      intro wq hbq
      go_wp2_with fail
      go_ret
      refine⟨Qf ?_,hB0.trans (hbq.mono (by omega))⟩
      rw[eq_comm,Jl]
      rintro e;cases e;exact hne (Prod.mk.inj (HXY.out rfl)).2
     ·have hF:=hid (VI.1 hst)
      go_upto_region 12 with (fail)
      refine Qc wr.heap.size (by kernel_rfl) (by kernel_rfl) ?_
      repeat (go_big_quiet_step ((go_at_call 39;exact Calls.far_all (Nat.le_refl _) (fun w' hb'=>ih key s1 hmem t1 w' _ _ _ _ (HRS.out w' hb') (HRT.out w' hb')))))
      refine wpQuiet_nil ?_
      intro wq hbq
      go_wp2_with fail
      go_roundw
      case rel=>exact⟨k+1,by omega,by go_num,HT.out.2 (by rw[hE.out,hF.out]),hb.trans (hbq.mono (by omega))⟩
      case measure=>simp[intOf];omega
    ·obtain rfl:k=ks.length:=by omega
     have HK:Hid (ks=ks'):=by
      have h1:=hrel.out
      rw[List.take_of_length_le (Nat.le_refl _),List.take_of_length_le (by rw[HM.out];exact Nat.le_refl _)]at h1
      exact h1
     clear hrel
     go_wp2_with fail
     go_ret
     refine⟨Qf ?_,hB0⟩
     rw[eq_comm,VI,HE.out,HK.out]
end Go.Proofs.YtbcoelggdikipaaGreat
namespace Go.Proofs.YtbcoelggdikipaaGreat
open Go.RowKit
theorem qXh (s t:Tr)(a b:List Sp)(ve vk ue uk va vb:Value)(w:World)(h:s.rd w w.heap.size ve vk)(h':t.rd w w.heap.size ue uk)(ha:SlP w w.heap.size 3 SpE va a)(hb:SlP w w.heap.size 3 SpE vb b) :
  Calls Tryz.prog 12 #[.agg #[ve,vk,va],.agg #[ue,uk,vb]] w fun e w'=>e=.returned (.bool (trEq s t&&decide (a=b)))/\Below w.heap.size w w':=by
 obtain⟨A1,n1,A2,n2,rfl,rfl⟩:=Qj h
 obtain⟨A3,n3,A4,n4,rfl,rfl⟩:=Qj h'
 have ha0:=ha
 have hb0:=hb
 obtain⟨A5,n5,rfl,_⟩:=ha
 obtain⟨A6,n6,rfl,_⟩:=hb
 have hB:Below w.heap.size w ((w.alloc (.cells #[.slice A1 s.es.length n1,.slice A2 s.ks.length n2,.slice A5 a.length n5] 29)).alloc (.cells #[.slice A3 t.es.length n3,.slice A4 t.ks.length n4,.slice A6 b.length n6] 29)):=((Below.refl _ w).alloc (Nat.le_refl _) _).alloc (by simp) _
 go_enter Tryz.func12,Tryz.ntmps12
 rcases hst:trEq s t
 ·go_wp2_with (go_at_call 39;refine (Kq s t _ _ _ _ _ (Qi hB hB.size _ _ _ h) (Qi hB hB.size _ _ _ h')).mono ?_;rw[hst];rintro e w1 ⟨rfl,hb1⟩)
  go_ret
  exact⟨Qf (by simp),hB.trans (hb1.mono hB.size)⟩
 ·go_wp2_with (first|(go_at_call 39;go_loud ((refine (Kq s t _ _ _ _ _ (Qi hB hB.size _ _ _ h) (Qi hB hB.size _ _ _ h')).mono ?_);rw[hst];rintro e w1 ⟨rfl,hb1⟩;have hc0:w1.cell? ⟨w.heap.size,2,none⟩=some (.slice A5 a.length n5):=(by rw[hb1.cell (p:=⟨w.heap.size,2,none⟩) (by simp;omega),World.cell?_alloc_past _ _ _ (by simp),World.cell?_alloc_new];rfl);have hc1:w1.cell? ⟨w.heap.size+1,2,none⟩=some (.slice A6 b.length n6):=(by rw[hb1.cell (p:=⟨w.heap.size+1,2,none⟩) (by simp),World.cell?_alloc_at _ _ _ _ (by simp)];rfl);have hB1:=hid (hB.trans (hb1.mono hB.size))))|(go_at_call 40;go_loud ((refine (qZd a b _ _ w1 _ (ha0.imp hB1.out hB1.out.size (fun _ _ _ h=>h)) (hb0.imp hB1.out hB1.out.size (fun _ _ _ h=>h))).mono ?_);rintro e w2 ⟨rfl,q,rfl⟩)))
  go_ret
  exact⟨Qf (by simp),hB1.out.trans ⟨rfl,rfl,rfl,Nat.le_refl _,fun _ _=>rfl⟩⟩
def ltS (a b:ByteArray):Bool:=Op.bytesLess a.toList b.toList
theorem Qx (a:ByteArray):ltS a a=false:=by
 unfold ltS;rw[bytesLess_eq];simp[List.lt_irrefl]
theorem QF {a b c:ByteArray}(h:ltS a b=true)(k:ltS b c=true):ltS a c=true:=by
 unfold ltS at *;rw[bytesLess_eq]at *
 simp only[decide_eq_true_eq]at *
 exact List.lt_trans h k
theorem ZI {a b:ByteArray}(h:ltS a b=false)(k:ltS b a=false):a=b:=by
 unfold ltS at *;rw[bytesLess_eq]at *
 simp only[decide_eq_false_iff_not,List.not_lt]at *
 exact (QM a b).1 (List.le_antisymm k h)
theorem qKv (a b:ByteArray):ltS a b=(!Op.bytesLess b.toList a.toList&&!(b.toList==a.toList)):=by
 unfold ltS
 rw[bytesLess_eq,bytesLess_eq,Bool.eq_iff_iff]
 simp only[decide_eq_true_eq,Bool.and_eq_true,Bool.not_eq_true',decide_eq_false_iff_not,beq_eq_false_iff_ne,List.not_lt]
 constructor
 ·intro h;exact⟨List.le_of_lt h,fun e=>by rw[e]at h;exact List.lt_irrefl _ h⟩
 ·rintro⟨h,k⟩
  rcases Decidable.em (a.toList<b.toList) with h'|h'
  ·exact h'
  ·exact absurd (List.le_antisymm (List.not_lt.1 h') h) k
theorem Yf (a:Dt):a.lt a=false:=by simp[Dt.lt]
theorem YB {a b c:Dt}(h:a.lt b=true)(k:b.lt c=true):a.lt c=true:=by
 unfold Dt.lt at *
 split at h<;>split at k<;>split<;>simp at *<;>omega
def selC (last:Option Dt)(b:Option En)(x:Lf):Bool:=
 x.1.isEmpty&&okP last x.2.dot&&(match b with|none=>true|some c=>x.2.dot.lt c.dot)
def selS (last:Option Dt)(b:Option En)(x:Lf):Option En:=if selC last b x then some x.2 else b
def bestE (l:List Lf)(last:Option Dt):Option En:=l.foldl (selS last) none
def Xj (l:List Lf):Nat->List En->List En
 |0,es=>es
 |n+1,es=>match bestE l (es.getLast?.map En.dot) with|none=>es|some e=>Xj l n (es++[e])
def Z9 (l:List Lf):List En:=Xj l (l.length+1) []
def keyC (last b:ByteArray)(x:Lf):Bool:=match x.1 with | []=>false | q :: _=>ltS last q&&(decide (b=ByteArray.empty)||ltS q b)
def keyS (last b:ByteArray)(x:Lf):ByteArray:=if keyC last b x then x.1.headD ByteArray.empty else b
def bestK (l:List Lf)(last:ByteArray):ByteArray:=l.foldl (keyS last) ByteArray.empty
def ZJ (f:List Lf->Tr)(l:List Lf):Nat->ByteArray->List Kd
 |0,_=>[]
 |n+1,last=>if bestK l last=ByteArray.empty then [] else (bestK l last,f (Qt l (bestK l last))) :: ZJ f l n (bestK l last)
def JH:Nat->List Lf->Tr
 |0,l=>.mk (Z9 l) (ZJ (fun _=>.mk [] []) l (l.length+1) ByteArray.empty)
 |d+1,l=>.mk (Z9 l) (ZJ (JH d) l (l.length+1) ByteArray.empty)
def ahE (l:List Lf)(last:Option Dt):Nat:=(l.filter fun x=>okP last x.2.dot).length
def ahK (l:List Lf)(last:ByteArray):Nat:=(l.filter fun x=>match x.1 with|[]=>false|q :: _=>ltS last q).length
theorem qKw (l:List Lf)(last:Option Dt):∀ (b:Option En),(∀ e,b=some e->okP last e.dot=true)->∀ e,l.foldl (selS last) b=some e->(b=some e∨∃ x∈l,x.1=[]/\x.2=e)/\okP last e.dot=true:=by
 induction l with
 |nil=>intro b hb e he;exact⟨.inl he,hb e he⟩
 |cons x l ih=>
  intro b hb e he
  rw[List.foldl_cons]at he
  by_cases hc:selC last b x=true
  ·have e1:selS last b x=some x.2:=by simp[selS,hc]
   rw[e1]at he
   simp only[selC,Bool.and_eq_true]at hc
   obtain⟨h1,h2⟩:=ih (some x.2) (fun e he=>by cases he;exact hc.1.2) e he
   refine⟨.inr ?_,h2⟩
   rcases h1 with h1|⟨y,hy,h3⟩
   ·cases h1;exact⟨x,by simp,by simpa using hc.1.1,rfl⟩
   ·exact⟨y,by simp[hy],h3⟩
  ·have e1:selS last b x=b:=by simp[selS,hc]
   rw[e1]at he
   obtain⟨h1,h2⟩:=ih b hb e he
   refine⟨?_,h2⟩
   rcases h1 with h1|⟨y,hy,h3⟩
   ·exact .inl h1
   ·exact .inr ⟨y,by simp[hy],h3⟩
theorem XZ {l:List Lf}{last:Option Dt}{e:En}(h:bestE l last=some e):(∃ x∈l,x.1=[]/\x.2=e)/\okP last e.dot=true:=by
 obtain⟨h1,h2⟩:=qKw l last none (fun _ h=>by cases h) e h
 refine⟨?_,h2⟩
 rcases h1 with h1|h1
 ·cases h1
 ·exact h1
theorem Xk {α:Type}{p q:α->Bool}:∀ {l:List α}{x:α},x∈l->(∀ y,q y=true->p y=true)->p x=true->q x=false->(l.filter q).length<(l.filter p).length
 |z :: l,x,hx,hpq,hp,hq=>by
  have hle:(l.filter q).length<=(l.filter p).length:=by
   clear hx
   induction l with
   |nil=>simp
   |cons u l ih=>
    simp only[List.filter_cons]
    cases h1:q u
    ·cases h2:p u<;>simp<;>omega
    ·simp[hpq u h1];omega
  simp only[List.filter_cons]
  rcases List.mem_cons.1 hx with rfl|hx
  ·simp[hp,hq];omega
  ·have:=Xk hx hpq hp hq
   cases h1:q z
   ·cases h2:p z<;>simp<;>omega
   ·simp[hpq z h1];omega
theorem VO {last:Option Dt}{a b:Dt}(h:okP last a=true)(k:a.lt b=true):okP last b=true:=by
 cases last with
 |none=>rfl
 |some q=>exact YB h k
theorem zZr {l:List Lf}{last:Option Dt}{e:En}(h:bestE l last=some e):ahE l (some e.dot)<ahE l last:=by
 obtain⟨⟨x,hx,_,rfl⟩,h2⟩:=XZ h
 exact Xk hx (fun y hy=>VO h2 hy) h2 (Yf _)
theorem qKx (l:List Lf)(last:Option Dt):ahE l last<=l.length:=List.length_filter_le _ _
theorem qKy (l:List Lf)(last:ByteArray):∀ (b:ByteArray),(b≠ByteArray.empty->ltS last b=true)->(l.foldl (keyS last) b=b∨∃ x∈l,∃ qs,x.1=l.foldl (keyS last) b :: qs)/\(l.foldl (keyS last) b≠ByteArray.empty->ltS last (l.foldl (keyS last) b)=true):=by
 induction l with
 |nil=>intro b hb;exact⟨.inl rfl,hb⟩
 |cons x l ih=>
  intro b hb
  rw[List.foldl_cons]
  by_cases hc:keyC last b x=true
  ·obtain⟨p,e⟩:=x
   cases p with
   |nil=>simp[keyC]at hc
   |cons q qs=>
    have e1:keyS last b (q :: qs,e)=q:=by simp[keyS,hc]
    rw[e1]
    simp only[keyC,Bool.and_eq_true]at hc
    obtain⟨h1,h2⟩:=ih q (fun _=>hc.1)
    refine⟨.inr ?_,h2⟩
    rcases h1 with h1|⟨y,hy,qs',h3⟩
    ·exact⟨_,List.mem_cons_self,qs,by rw[h1]⟩
    ·exact⟨y,by simp[hy],qs',h3⟩
  ·have e1:keyS last b x=b:=by simp[keyS,hc]
   rw[e1]
   obtain⟨h1,h2⟩:=ih b hb
   refine⟨?_,h2⟩
   rcases h1 with h1|⟨y,hy,h3⟩
   ·exact .inl h1
   ·exact .inr ⟨y,by simp[hy],h3⟩
theorem X0 {l:List Lf}{last:ByteArray}(h:bestK l last≠ByteArray.empty):(∃ x∈l,∃ qs,x.1=bestK l last :: qs)/\ltS last (bestK l last)=true:=by
 obtain⟨h1,h2⟩:=qKy l last ByteArray.empty (fun h=>absurd rfl h)
 refine⟨?_,h2 h⟩
 rcases h1 with h1|h1
 ·exact absurd h1 h
 ·exact h1
theorem zZs {l:List Lf}{last:ByteArray}(h:bestK l last≠ByteArray.empty):ahK l (bestK l last)<ahK l last:=by
 obtain⟨⟨x,hx,qs,hq⟩,h2⟩:=X0 h
 refine Xk hx (fun y hy=>?_) ?_ ?_
 ·revert hy
  cases y.1 with
  |nil=>exact fun h=>h
  |cons q _=>exact fun hy=>QF h2 hy
 ·rw[hq];exact h2
 ·rw[hq];exact Qx _
theorem qKz (l:List Lf)(last:ByteArray):ahK l last<=l.length:=List.length_filter_le _ _
theorem qJg {l:List Lf}{k:Nat}{x:Lf}(h:l[k]?=some x)(last:Option Dt)(b:Option En):(l.take (k+1)).foldl (selS last) b=selS last ((l.take k).foldl (selS last) b) x:=by
 rw[List.take_add_one,h,List.foldl_append];rfl
theorem qJh {l:List Lf}{k:Nat}{x:Lf}(h:l[k]?=some x)(last b:ByteArray):(l.take (k+1)).foldl (keyS last) b=keyS last ((l.take k).foldl (keyS last) b) x:=by
 rw[List.take_add_one,h,List.foldl_append];rfl
theorem qKi (t:Tr)(s:ByteArray)(w:World)(ve vk:Value)(h:t.rd w w.heap.size ve vk) :
  Calls Tryz.prog 150 #[.agg #[ve,vk],.string s] w fun e w'=>e=.returned (.bool (t.ks.any fun y=>decide (y.1=s)))/\Below w.heap.size w w':=by
 obtain⟨es,ks⟩:=t
 rw[QA]at h
 obtain⟨⟨A0,n0,rfl,d1,d2,d3⟩,⟨A,m,rfl,c1,c2,c3⟩⟩:=h
 unfold Big at c2 d2
 simp only[Tr.ks]
 have hb0:Below w.heap.size w (w.alloc (.cells #[.slice A0 es.length n0,.slice A ks.length m] 25)):=(Below.refl _ w).alloc (Nat.le_refl _) _
 clear d3
 go_enter Tryz.func150,Tryz.ntmps150
 go_wp2_with fail
 go_loop [9] (fun i=>∃ k:Nat,k<=ks.length/\i=.int .i64 k/\Hid (((ks.take k).any fun y=>decide (y.1=s))=false)) (fun i=>ks.length-(intOf i).toNat)
 case atStart=>exact⟨0,Nat.zero_le _,rfl,rfl⟩
 case round=>
  obtain⟨k,hk,rfl,hrel⟩:=hrel
  by_cases hlt:k<ks.length
  ·obtain⟨⟨key,t⟩,hx⟩:∃ x,ks[k]?=some x:=⟨_,List.getElem?_eq_getElem hlt⟩
   obtain⟨b,off,rfl,hbB,hc⟩:=c3 (by rintro rfl;simp at hlt)
   obtain⟨cs,⟨ve',vk',rfl,hkb,hrd⟩,_,hu⟩:=hc k _ hx
   have e0:(w.alloc (.cells #[.slice A0 es.length n0,.slice (some ⟨b,off,none⟩) ks.length m] 25)).cell? ⟨b,off+k*3,none⟩=some (.string key):=(hb0.cell hbB).trans (hu 0 _ rfl)
   have HM:Hid ((key,t)∈ks):=List.mem_of_getElem? hx
   have HT:Hid (((ks.take (k+1)).any fun y=>decide (y.1=s))=decide (key=s)):=by
    unfold Hid;rw[List.take_add_one,hx,List.any_append,hrel.out];simp
   clear hu hc c3 hx hrd
   by_cases he:key=s
   ·have hq:(key.toList==s.toList)=true:=by rw[he];simp
    have HE:=hid he
    clear he
    go_wp2_with fail
    go_ret
    exact⟨Qf (List.any_eq_true.2 ⟨_,HM.out,by simpa using HE.out⟩).symm,hb0⟩
   ·have hq:(key.toList==s.toList)=false:=by simp[QM];exact he
    have HE:=hid he
    clear he
    go_wp2_with fail
    go_round
    case rel=>exact⟨k+1,by omega,by go_num,by unfold Hid;rw[HT.out];simpa using HE.out⟩
    case measure=>simp[intOf];omega
  ·obtain rfl:k=ks.length:=by omega
   have hr:=hrel.out
   rw[List.take_of_length_le (Nat.le_refl _)]at hr
   have HR:=hid hr
   clear hr
   go_wp2_with fail
   go_ret
   exact⟨Qf HR.out.symm,hb0⟩
theorem Qa {w:World}{n i:Nat}{cs:Array Value}{e:TypeId}{z:Nat×Nat}(h:w.heap[n]?=some (.cells cs e z)):w.cell? ⟨n,i,none⟩=cs[i]?:=by
 unfold World.cell?;simp only[h];rfl
theorem qZf {α:Type}(l:List α):l=[]∨∃ L b,l=L++[b]:=by
 rcases List.eq_nil_or_concat l with h|⟨L,b,h⟩
 ·exact .inl h
 ·exact .inr ⟨L,b,by rw[h,List.concat_eq_append]⟩
theorem bx2 {w:World}{g:Nat}{a b:Value}{e:TypeId}(h:w.heap[g]?=some (.cells #[a,b] e (0,0))):w.cell? ⟨g,0,none⟩=some a/\w.cell? ⟨g,1,none⟩=some b:=⟨Qa (i:=0) h,Qa (i:=1) h⟩
theorem bx3 {w:World}{g:Nat}{a b c:Value}{e:TypeId}(h:w.heap[g]?=some (.cells #[a,b,c] e (0,0))):w.cell? ⟨g,0,none⟩=some a/\w.cell? ⟨g,1,none⟩=some b/\w.cell? ⟨g,2,none⟩=some c:=⟨Qa (i:=0) h,Qa (i:=1) h,Qa (i:=2) h⟩
theorem bx4 {w:World}{g:Nat}{a b c d:Value}{e:TypeId}(h:w.heap[g]?=some (.cells #[a,b,c,d] e (0,0))):w.cell? ⟨g,0,none⟩=some a/\w.cell? ⟨g,1,none⟩=some b/\w.cell? ⟨g,2,none⟩=some c/\w.cell? ⟨g,3,none⟩=some d:=⟨Qa (i:=0) h,Qa (i:=1) h,Qa (i:=2) h,Qa (i:=3) h⟩
theorem bx7 {w:World}{g:Nat}{a b c d x y z:Value}{e:TypeId}(h:w.heap[g]?=some (.cells #[a,b,c,d,x,y,z] e (0,0))):w.cell? ⟨g,0,none⟩=some a/\w.cell? ⟨g,1,none⟩=some b/\w.cell? ⟨g,2,none⟩=some c/\w.cell? ⟨g,3,none⟩=some d/\w.cell? ⟨g,4,none⟩=some x/\w.cell? ⟨g,5,none⟩=some y/\w.cell? ⟨g,6,none⟩=some z:=⟨Qa (i:=0) h,Qa (i:=1) h,Qa (i:=2) h,Qa (i:=3) h,Qa (i:=4) h,Qa (i:=5) h,Qa (i:=6) h⟩
theorem bzn {w:World}{g:Nat}{cs:Array Value}{e:TypeId}(h:w.heap[g]?=some (.cells cs e (0,0)))(i:Nat):w.frozen? ⟨g,i,none⟩=false:=by simp[World.frozen?,h]
theorem bz2 {w:World}{g:Nat}{a b:Value}{e:TypeId}(h:w.heap[g]?=some (.cells #[a,b] e (0,0))):w.cell? ⟨g,0,none⟩=some a/\w.cell? ⟨g,1,none⟩=some b/\w.frozen? ⟨g,0,none⟩=false/\w.frozen? ⟨g,1,none⟩=false:=⟨(bx2 h).1,(bx2 h).2,bzn h 0,bzn h 1⟩
theorem bz3 {w:World}{g:Nat}{a b c:Value}{e:TypeId}(h:w.heap[g]?=some (.cells #[a,b,c] e (0,0))):w.cell? ⟨g,0,none⟩=some a/\w.cell? ⟨g,1,none⟩=some b/\w.cell? ⟨g,2,none⟩=some c/\w.frozen? ⟨g,0,none⟩=false/\w.frozen? ⟨g,1,none⟩=false/\w.frozen? ⟨g,2,none⟩=false:=⟨(bx3 h).1,(bx3 h).2.1,(bx3 h).2.2,bzn h 0,bzn h 1,bzn h 2⟩
theorem bz4 {w:World}{g:Nat}{a b c d:Value}{e:TypeId}(h:w.heap[g]?=some (.cells #[a,b,c,d] e (0,0))):w.cell? ⟨g,0,none⟩=some a/\w.cell? ⟨g,1,none⟩=some b/\w.cell? ⟨g,2,none⟩=some c/\w.cell? ⟨g,3,none⟩=some d/\w.frozen? ⟨g,0,none⟩=false/\w.frozen? ⟨g,1,none⟩=false/\w.frozen? ⟨g,2,none⟩=false/\w.frozen? ⟨g,3,none⟩=false:=⟨(bx4 h).1,(bx4 h).2.1,(bx4 h).2.2.1,(bx4 h).2.2.2,bzn h 0,bzn h 1,bzn h 2,bzn h 3⟩
theorem bz7 {w:World}{g:Nat}{a b c d x y z:Value}{e:TypeId}(h:w.heap[g]?=some (.cells #[a,b,c,d,x,y,z] e (0,0))):w.cell? ⟨g,0,none⟩=some a/\w.cell? ⟨g,1,none⟩=some b/\w.cell? ⟨g,2,none⟩=some c/\w.cell? ⟨g,3,none⟩=some d/\w.cell? ⟨g,4,none⟩=some x/\w.cell? ⟨g,5,none⟩=some y/\w.cell? ⟨g,6,none⟩=some z/\w.frozen? ⟨g,0,none⟩=false/\w.frozen? ⟨g,1,none⟩=false/\w.frozen? ⟨g,2,none⟩=false/\w.frozen? ⟨g,3,none⟩=false/\w.frozen? ⟨g,4,none⟩=false/\w.frozen? ⟨g,5,none⟩=false/\w.frozen? ⟨g,6,none⟩=false:=⟨(bx7 h).1,(bx7 h).2.1,(bx7 h).2.2.1,(bx7 h).2.2.2.1,(bx7 h).2.2.2.2.1,(bx7 h).2.2.2.2.2.1,(bx7 h).2.2.2.2.2.2,bzn h 0,bzn h 1,bzn h 2,bzn h 3,bzn h 4,bzn h 5,bzn h 6⟩
theorem Qb {w:World}{n i:Nat}{cs:Array Value}{e:TypeId}(h:w.heap[n]?=some (.cells cs e (0,0))):w.frozen? ⟨n,i,none⟩=false:=by
 simp[World.frozen?,h]
theorem Qe {w:World}{n i:Nat}{cs:Array Value}{e:TypeId}{z:Nat×Nat}(h:w.heap[n]?=some (.cells cs e z))(v:Value):(w.setCell ⟨n,i,none⟩ v).heap[n]?=some (.cells (cs.setIfInBounds i v) e z):=by
 have hlt:=lt_of_block h
 have h':w.heap[n]=.cells cs e z:=by simpa[Array.getElem?_eq_getElem hlt] using h
 show (w.heap.modify n _)[n]?=_
 rw[Array.getElem?_eq_getElem (by simpa using hlt),Array.getElem_modify_self,h']
 rfl
theorem OwnP.setOther {α:Type}{w:World}{base:Nat}{e:TypeId}{sz:Nat}{E:α->List Value->Prop}{v:Value}{xs:List α}(h:OwnP w base e sz E v xs){a:Addr}(ha:a.block<base)(u:Value):OwnP (w.setCell a u) base e sz E v xs:=by
 obtain⟨css,h1,h2⟩:=h
 exact⟨css,h1,ownsRow_setCell_below h2 ha u⟩
theorem OwnD.setOther {α:Type}{w:World}{base:Nat}{e:TypeId}{sz:Nat}{E:World->(Nat->Prop)->α->List Value->Prop}{okp:Nat->Prop}{v:Value}{xs:List α}(h:OwnD w base e sz E okp v xs)(hE:Emon E){a:Addr}(ha:a.block<base)(ho:¬okp a.block)(u:Value):OwnD (w.setCell a u) base e sz E okp v xs:=
 (OwnP.setOther h ha u).imp fun _ _ _ hx=>hE.up (w:=w) (fun b hb=>Below.heap_setCell w a u b (fun e=>ho (e▸hb.1))) (fun b hb=>⟨hb.1,by simpa[World.setCell] using hb.2.1,hb.2.2⟩) hx
theorem qK0 {w:World}{ok okq:Nat->Prop}{q:ByteArray}{t:Tr}{ve vk:Value}{B:Nat}(h:t.rda w ok ve vk)(hq:q.size<=Big)(hok:∀ b,ok b->b<w.heap.size/\okq b)(e:TypeId)(hB:w.heap.size<B) :
  SlP (w.alloc (.cells #[.string q,ve,vk] e)) B 3 (KdA (w.alloc (.cells #[.string q,ve,vk] e)) okq) (.slice (some ⟨w.heap.size,0,none⟩) 1 1) [(q,t)]:=
 SlP.oneB (x:=(q,t)) (cs:=[.string q,ve,vk]) ⟨ve,vk,rfl,hq,Qs (fun b hb=>Qg (hok b hb).1) (fun b hb=>(hok b hb).2) _ _ _ h⟩ rfl e rfl hB
def bestC:Option En->List Value
 |none=>[.int .i64 0,.int .i64 0,.string ByteArray.empty,.int .i64 0]
 |some e=>[.int .i64 e.dc,.int .i64 e.n,.string e.s,.int .i64 e.v]
def lastD (es:List En):Option Dt:=es.getLast?.map En.dot
def zYn (l:List Lf)(w:World)(n:Nat)(wr:World):Prop:=
 ∃ (es:List En) (ve:Value),OwnP wr (w.heap.size+2) 80 4 EnE ve es/\wr.heap[w.heap.size+1]?=some (.cells #[ve,.slice none 0 0] 25 (0,0))/\wr.heap[w.heap.size]?=some (.cells #[.slice none 0 0,.slice none 0 0] 25 (0,0)) /\
  w.heap.size+2<=wr.heap.size/\Below w.heap.size w wr/\Hid (Xj l n es=Z9 l)/\Hid (ahE l (lastD es)<n)/\Hid (es.length+ahE l (lastD es)<=l.length)
def zYo (f:List Lf->Tr)(l:List Lf)(w w1:World)(ve:Value)(n:Nat)(vl:Value)(wr:World):Prop:=
 ∃ (last:ByteArray) (ks:List Kd) (vk:Value),vl=.string last/\OwnD wr w1.heap.size 96 3 KdA (fun b=>w1.heap.size<=b) vk ks/\wr.heap[w.heap.size+1]?=some (.cells #[ve,vk] 25 (0,0))/\wr.heap[w.heap.size]?=some (.cells #[.slice none 0 0,.slice none 0 0] 25 (0,0)) /\
  Keeps (fun b=>w.heap.size+2<=b/\b<w1.heap.size) w1 wr/\w1.heap.size<=wr.heap.size/\Below w.heap.size w wr/\Hid (ks++ZJ f l n last=ZJ f l (l.length+1) ByteArray.empty)/\Hid (ahK l last<n)/\Hid (ks.length+ahK l last<=l.length)
theorem VP (f:List Lf->Tr)(l:List Lf)(vl:Value)(w:World)(ih:∀ x∈l,∀ q qs,x.1=q :: qs->∀ vl w,SlP w w.heap.size 5 (LfA w (fun b=>b<w.heap.size)) vl (Qt l q) ->
   Calls Tryz.prog 43 #[vl] w fun e w'=>∃ ve vk,e=.returned (.agg #[ve,vk])/\(f (Qt l q)).rda w' (fun b=>w.heap.size<=b/\b<w'.heap.size) ve vk/\Below w.heap.size w w')
  (h:SlP w w.heap.size 5 (LfA w (fun b=>b<w.heap.size)) vl l) (hN:l.length<=900000) :
  Calls Tryz.prog 43 #[vl] w fun e w'=>∃ ve vk,e=.returned (.agg #[ve,vk])/\(Tr.mk (Z9 l) (ZJ f l (l.length+1) ByteArray.empty)).rda w' (fun b=>w.heap.size<=b/\b<w'.heap.size) ve vk/\Below w.heap.size w w':=by
 have HLW:Hid (∀ w',Below w.heap.size w w'->SlP w' w'.heap.size 5 (LfA w' (fun b=>True/\b<w'.heap.size)) vl l):=fun w' hb'=>
  h.imp hb' hb'.size fun _ _ _ hx=>LfA.mon.up (fun b hb=>hb'.block b hb) (fun b hb=>⟨trivial,Nat.lt_of_lt_of_le hb hb'.size⟩) hx
 obtain⟨A,c,rfl,l1,l2,l3⟩:=h
 unfold Big at l2
 have IH:=hid ih
 clear ih
 go_enter Tryz.func43,Tryz.ntmps43
 go_wp2_with fail
 go_loopg [] (l.length+1) (fun n wr=>zYn l w n wr)
 case atStart=>
  refine⟨[],.slice none 0 0,OwnP.nil,?_,?_,?_,?_,rfl,?_,?_⟩
  ·exact Qd (by simp)
  ·rw[Qg (by simp)];exact Qd rfl
  ·simp
  ·exact (((Below.refl _ w).alloc (Nat.le_refl _) _).alloc (by simp) _)
  ·have:=qKx l (lastD []);unfold Hid;omega
  ·have:=qKx l (lastD []);unfold Hid;simp;omega
 case round=>
  obtain⟨es,ve,hown,hg3,hg2,hsz,hb,hgo,hah,hle⟩:=hrel
  have hel:es.length<=900000:=by have:=hle.out;omega
  obtain⟨Ae,ce,rfl⟩:=hown.shape
  have hsp:=hown.sl (by unfold Big;omega)
  go_wp2_with fail
  obtain⟨wo,rfl⟩:∃ wo:World,wo=wr:=⟨_,rfl⟩
  go_loopw [5,13] (fun f i wr=>∃ (k:Nat),k<=l.length/\i=.int .i64 k/\f=.bool ((l.take k).foldl (selS (lastD es)) none).isSome/\wr.heap[wo.heap.size]?=some (.cells (bestC ((l.take k).foldl (selS (lastD es)) none)).toArray 80 (0,0))/\Below wo.heap.size wo wr) (fun _ i _=>l.length-(intOf i).toNat)
  case atStart=>exact⟨0,Nat.zero_le _,rfl,rfl,Qd rfl,(Below.refl _ _).alloc (Nat.le_refl _) _⟩
  case round=>
   obtain⟨k,hk,rfl,rfl,hbx,hbr⟩:=hrel
   have hs2:=hbr.size
   have hs3:wo.heap.size<wr.heap.size:=(Array.getElem?_eq_some_iff.1 hbx).1
   have hB:Below w.heap.size w wr:=hb.trans (hbr.mono (by omega))
   by_cases hlt:k<l.length
   ·obtain⟨⟨p,x⟩,hx⟩:∃ x,l[k]?=some x:=⟨_,List.getElem?_eq_getElem hlt⟩
    obtain⟨b,off,rfl,hbB,hc⟩:=l3 (by rintro rfl;simp at hlt)
    obtain⟨cs,⟨A7,c7,rfl,hp,hok⟩,_,hu⟩:=hc k _ hx
    have hut:=qJg hx (lastD es) none
    have e0:wr.cell? ⟨b,off+k*5,none⟩=some (.slice A7 p.length c7):=(hB.cell hbB).trans (hu 0 _ rfl)
    have q0:=Qh (B:=wr.heap.size) e0 (by omega)
    have e1:=(hB.cell hbB).trans (hu 1 _ rfl)
    have e2:=(hB.cell hbB).trans (hu 2 _ rfl)
    have q1:=Qh (B:=wr.heap.size) e1 (by omega)
    have q2:=Qh (B:=wr.heap.size) e2 (by omega)
    have hg3r:wr.heap[w.heap.size+1]?=some (.cells #[.slice Ae es.length ce,.slice none 0 0] 25 (0,0)):=(hbr.block _ (by omega)).trans hg3
    have z0:wr.cell? ⟨w.heap.size+1,0,none⟩=some (.slice Ae es.length ce):=Qa (i:=0) hg3r
    have r0:=Qh (B:=wr.heap.size) z0 (by omega)
    have hbp:∀ m',Below wr.heap.size wr m'->m'.heap[wo.heap.size]?=some (.cells (bestC ((l.take k).foldl (selS (lastD es)) none)).toArray 80 (0,0)):=fun m' hm=>(hm.block _ hs3).trans hbx
    cases p with
    |cons q qs=>
     have HX:Hid ((l.take (k+1)).foldl (selS (lastD es)) none=(l.take k).foldl (selS (lastD es)) none):=by unfold Hid;rw[hut];simp[selS,selC]
     have HBP:=hid hbp
     obtain⟨np,hnp,hne⟩:∃ np,np=(q :: qs).length/\((np:Int)==0)=false:=⟨_,rfl,by simp;omega⟩
     rw[←hnp]at q0
     clear hu hx hc l3 hok hp hut hbp hbx hg3r e0 e1 e2 hnp
     go_upto_region 8 with (fail)
     refine Qc wr.heap.size (by kernel_rfl) (by kernel_rfl) ?_
     repeat (go_big_quiet_step ((go_at_call 80;exact Calls.far_of (Nat.le_refl _) (QD ⟨_,_⟩ ⟨_,_⟩ _))))
     refine wpQuiet_nil ?_
     intro wq hbq
     go_wp2_with fail
     go_roundw
     case rel=>exact⟨k+1,by omega,by go_num,by rw[HX.out],by rw[HX.out];exact HBP.out _ hbq,hbr.trans (hbq.mono (by omega))⟩
     case measure=>simp[intOf];omega
    |nil=>
     obtain⟨q1',q2'⟩:=And.intro q1 q2
     have e3:=(hB.cell hbB).trans (hu 3 _ rfl)
     have e4:=(hB.cell hbB).trans (hu 4 _ rfl)
     have HE:Hid (∀ m',Below wr.heap.size wr m'->m'.cell? ⟨b,off+k*5+1,none⟩=some (.int .i64 x.dc)/\m'.cell? ⟨b,off+k*5+2,none⟩=some (.int .i64 x.n)/\m'.cell? ⟨b,off+k*5+3,none⟩=some (.string x.s)/\m'.cell? ⟨b,off+k*5+4,none⟩=some (.int .i64 x.v)):=
      fun m' hm=>⟨(hm.cell (by simp;omega)).trans e1,(hm.cell (by simp;omega)).trans e2,(hm.cell (by simp;omega)).trans e3,(hm.cell (by simp;omega)).trans e4⟩
     simp only[List.length_nil]at q0
     clear hu hx hc l3 hp e0 e1 e2 e3 e4 hg3r
     rcases qZf es with rfl|⟨es',z,rfl⟩
     ·generalize hbst:(l.take k).foldl (selS (lastD [])) none=bst at *
      simp only[List.length_nil]at r0 z0
      cases bst with
      |none=>
       have HX:Hid ((l.take (k+1)).foldl (selS (lastD [])) none=some x):=by unfold Hid;rw[hut];simp[selS,selC,okP,lastD]
       clear hut hbst
       have HBP:=hid hbp
       clear hbp hbx
       go_upto_region 8 with (fail)
       refine Qc wr.heap.size (by kernel_rfl) (by kernel_rfl) ?_
       repeat (go_big_quiet_step ((go_at_call 80;exact Calls.far_of (Nat.le_refl _) (QD ⟨_,_⟩ ⟨_,_⟩ _))))
       refine wpQuiet_nil ?_
       intro wq hbq
       have hqs:=hbq.size
       obtain⟨f1,f2,f3,f4⟩:=HE.out wq hbq
       have hfb:=HBP.out wq hbq
       have FB:=hid hfb
       obtain⟨c0,c1,c2,c3,z0,z1,z2,z3⟩:=bz4 hfb
       try simp only[bestC,List.getElem?_toArray,List.getElem?_cons_zero,List.getElem?_cons_succ]at c0 c1 c2 c3
       clear hfb
       go_wp2_with fail
       go_roundw
       case rel=>exact⟨k+1,by omega,by go_num,by rw[HX.out]<;>rfl,by rw[HX.out];simpa[bestC] using Qe (i:=3) (Qe (i:=2) (Qe (i:=1) (Qe (i:=0) FB.out _) _) _) _,(((((hbr.trans (hbq.mono (by omega))).setCell (Nat.le_refl _) _).setCell (Nat.le_refl _) _).setCell (Nat.le_refl _) _).setCell (Nat.le_refl _) _)⟩
       case measure=>simp[intOf];omega
      |some y=>
       rcases hyx:Dt.lt ⟨x.dc,x.n⟩ ⟨y.dc,y.n⟩
       ·have HX:Hid ((l.take (k+1)).foldl (selS (lastD [])) none=some y):=by unfold Hid;rw[hut];simp[selS,selC,okP,lastD,En.dot,hyx]
        clear hut hbst
        have y0':wr.cell? ⟨wo.heap.size,0,none⟩=some (.int .i64 y.dc):=Qa (i:=0) hbx
        have y1':wr.cell? ⟨wo.heap.size,1,none⟩=some (.int .i64 y.n):=Qa (i:=1) hbx
        have y0:=Qh (B:=wr.heap.size) y0' hs3
        have y1:=Qh (B:=wr.heap.size) y1' hs3
        clear y0' y1'
        have HBP:=hid hbp
        clear hbp hbx
        go_upto_region 8 with (fail)
        refine Qc wr.heap.size (by kernel_rfl) (by kernel_rfl) ?_
        repeat (go_big_quiet_step ((go_at_call 80;exact Calls.far_of (Nat.le_refl _) (QD ⟨_,_⟩ ⟨_,_⟩ _))))
        refine wpQuiet_nil ?_
        intro wq hbq
        go_wp2_with fail
        go_roundw
        case rel=>exact⟨k+1,by omega,by go_num,by rw[HX.out]<;>rfl,by rw[HX.out];exact HBP.out _ hbq,hbr.trans (hbq.mono (by omega))⟩
        case measure=>simp[intOf];omega
       ·have HX:Hid ((l.take (k+1)).foldl (selS (lastD [])) none=some x):=by unfold Hid;rw[hut];simp[selS,selC,okP,lastD,En.dot,hyx]
        clear hut hbst
        have y0':wr.cell? ⟨wo.heap.size,0,none⟩=some (.int .i64 y.dc):=Qa (i:=0) hbx
        have y1':wr.cell? ⟨wo.heap.size,1,none⟩=some (.int .i64 y.n):=Qa (i:=1) hbx
        have y0:=Qh (B:=wr.heap.size) y0' hs3
        have y1:=Qh (B:=wr.heap.size) y1' hs3
        clear y0' y1'
        have HBP:=hid hbp
        clear hbp hbx
        go_upto_region 8 with (fail)
        refine Qc wr.heap.size (by kernel_rfl) (by kernel_rfl) ?_
        repeat (go_big_quiet_step ((go_at_call 80;exact Calls.far_of (Nat.le_refl _) (QD ⟨_,_⟩ ⟨_,_⟩ _))))
        refine wpQuiet_nil ?_
        intro wq hbq
        have hqs:=hbq.size
        obtain⟨f1,f2,f3,f4⟩:=HE.out wq hbq
        have hfb:=HBP.out wq hbq
        have FB:=hid hfb
        obtain⟨c0,c1,c2,c3,z0,z1,z2,z3⟩:=bz4 hfb
        try simp only[bestC,List.getElem?_toArray,List.getElem?_cons_zero,List.getElem?_cons_succ]at c0 c1 c2 c3
        clear hfb
        go_wp2_with fail
        go_roundw
        case rel=>exact⟨k+1,by omega,by go_num,by rw[HX.out]<;>rfl,by rw[HX.out];simpa[bestC] using Qe (i:=3) (Qe (i:=2) (Qe (i:=1) (Qe (i:=0) FB.out _) _) _) _,(((((hbr.trans (hbq.mono (by omega))).setCell (Nat.le_refl _) _).setCell (Nat.le_refl _) _).setCell (Nat.le_refl _) _).setCell (Nat.le_refl _) _)⟩
        case measure=>simp[intOf];omega
     ·generalize hlst:lastD (es'++[z])=lst at *
      have HLST:=hid hlst
      obtain rfl:lst=some z.dot:=by rw[←hlst];simp[lastD]
      obtain⟨np,hnp,hne,hnp1⟩:∃ np:Nat,(es'++[z]).length=np+1/\(((np:Int)+1)==0)=false/\np<900000:=⟨es'.length,by simp,by simp;omega,by simp at hel;omega⟩
      obtain⟨A9,c9,hv9,_,_,hcz⟩:=hsp
      simp only[Value.slice.injEq]at hv9
      obtain⟨rfl,_,rfl⟩:=hv9
      obtain⟨bz,oz,rfl,hbz,hcz⟩:=hcz (by simp)
      have hzn:(es'++[z])[np]?=some z:=by
       have e:np=es'.length:=by simpa using hnp.symm
       rw[e];simp
      obtain⟨cz,⟨rfl,hokz⟩,_,huz⟩:=hcz np z hzn
      have w0:=Qh (B:=wr.heap.size) ((hbr.cell (p:=⟨bz,oz+np*4,none⟩) hbz).trans (huz 0 _ rfl)) (by omega)
      have w1:=Qh (B:=wr.heap.size) ((hbr.cell (p:=⟨bz,oz+np*4+1,none⟩) hbz).trans (huz 1 _ rfl)) (by omega)
      have hwr:IntKind.i64.wrap (((np+1:Nat):Int)-1)=(np:Int):=by rw[show (((np+1:Nat):Int))-1=(np:Int) by omega];exact IntWalk.i64_in _ (by omega)
      have hne2:((((np+1:Nat):Int))==0)=false:=by simp;omega
      clear hcz huz hzn
      rw[hnp]at r0 z0
      have HNP:=hid hnp
      clear hnp
      rcases hzx:Dt.lt ⟨z.dc,z.n⟩ ⟨x.dc,x.n⟩
      ·have HX:Hid ((l.take (k+1)).foldl (selS (some z.dot)) none=(l.take k).foldl (selS (some z.dot)) none):=by unfold Hid;rw[hut];simp[selS,selC,okP,En.dot,hzx]
       clear hut
       have HBP:=hid hbp
       clear hbp hbx
       go_upto_region 8 with (fail)
       refine Qc wr.heap.size (by kernel_rfl) (by kernel_rfl) ?_
       repeat (go_big_quiet_step ((go_at_call 80;exact Calls.far_of (Nat.le_refl _) (QD ⟨_,_⟩ ⟨_,_⟩ _))))
       refine wpQuiet_nil ?_
       intro wq hbq
       go_wp2_with fail
       go_roundw
       case rel=>exact⟨k+1,by omega,by go_num,by rw[HX.out]<;>rfl,by rw[HX.out];exact HBP.out _ hbq,hbr.trans (hbq.mono (by omega))⟩
       case measure=>simp[intOf];omega
      ·generalize hbst:(l.take k).foldl (selS (some z.dot)) none=bst at *
       cases bst with
       |none=>
        have HX:Hid ((l.take (k+1)).foldl (selS (some z.dot)) none=some x):=by unfold Hid;rw[hut];simp[selS,selC,okP,En.dot,hzx]
        clear hut hbst
        have HBP:=hid hbp
        clear hbp hbx
        go_upto_region 8 with (fail)
        refine Qc wr.heap.size (by kernel_rfl) (by kernel_rfl) ?_
        repeat (go_big_quiet_step ((go_at_call 80;exact Calls.far_of (Nat.le_refl _) (QD ⟨_,_⟩ ⟨_,_⟩ _))))
        refine wpQuiet_nil ?_
        intro wq hbq
        have hqs:=hbq.size
        obtain⟨f1,f2,f3,f4⟩:=HE.out wq hbq
        have hfb:=HBP.out wq hbq
        have FB:=hid hfb
        obtain⟨c0,c1,c2,c3,z0,z1,z2,z3⟩:=bz4 hfb
        try simp only[bestC,List.getElem?_toArray,List.getElem?_cons_zero,List.getElem?_cons_succ]at c0 c1 c2 c3
        clear hfb
        go_wp2_with fail
        go_roundw
        case rel=>exact⟨k+1,by omega,by go_num,by rw[HX.out]<;>rfl,by rw[HX.out];simpa[bestC] using Qe (i:=3) (Qe (i:=2) (Qe (i:=1) (Qe (i:=0) FB.out _) _) _) _,(((((hbr.trans (hbq.mono (by omega))).setCell (Nat.le_refl _) _).setCell (Nat.le_refl _) _).setCell (Nat.le_refl _) _).setCell (Nat.le_refl _) _)⟩
        case measure=>simp[intOf];omega
       |some y=>
        rcases hyx:Dt.lt ⟨x.dc,x.n⟩ ⟨y.dc,y.n⟩
        ·have HX:Hid ((l.take (k+1)).foldl (selS (some z.dot)) none=some y):=by unfold Hid;rw[hut];simp[selS,selC,okP,En.dot,hzx,hyx]
         clear hut hbst
         have y0':wr.cell? ⟨wo.heap.size,0,none⟩=some (.int .i64 y.dc):=Qa (i:=0) hbx
         have y1':wr.cell? ⟨wo.heap.size,1,none⟩=some (.int .i64 y.n):=Qa (i:=1) hbx
         have y0:=Qh (B:=wr.heap.size) y0' hs3
         have y1:=Qh (B:=wr.heap.size) y1' hs3
         clear y0' y1'
         have HBP:=hid hbp
         clear hbp hbx
         go_upto_region 8 with (fail)
         refine Qc wr.heap.size (by kernel_rfl) (by kernel_rfl) ?_
         repeat (go_big_quiet_step ((go_at_call 80;exact Calls.far_of (Nat.le_refl _) (QD ⟨_,_⟩ ⟨_,_⟩ _))))
         refine wpQuiet_nil ?_
         intro wq hbq
         go_wp2_with fail
         go_roundw
         case rel=>exact⟨k+1,by omega,by go_num,by rw[HX.out]<;>rfl,by rw[HX.out];exact HBP.out _ hbq,hbr.trans (hbq.mono (by omega))⟩
         case measure=>simp[intOf];omega
        ·have HX:Hid ((l.take (k+1)).foldl (selS (some z.dot)) none=some x):=by unfold Hid;rw[hut];simp[selS,selC,okP,En.dot,hzx,hyx]
         clear hut hbst
         have y0':wr.cell? ⟨wo.heap.size,0,none⟩=some (.int .i64 y.dc):=Qa (i:=0) hbx
         have y1':wr.cell? ⟨wo.heap.size,1,none⟩=some (.int .i64 y.n):=Qa (i:=1) hbx
         have y0:=Qh (B:=wr.heap.size) y0' hs3
         have y1:=Qh (B:=wr.heap.size) y1' hs3
         clear y0' y1'
         have HBP:=hid hbp
         clear hbp hbx
         go_upto_region 8 with (fail)
         refine Qc wr.heap.size (by kernel_rfl) (by kernel_rfl) ?_
         repeat (go_big_quiet_step ((go_at_call 80;exact Calls.far_of (Nat.le_refl _) (QD ⟨_,_⟩ ⟨_,_⟩ _))))
         refine wpQuiet_nil ?_
         intro wq hbq
         have hqs:=hbq.size
         obtain⟨f1,f2,f3,f4⟩:=HE.out wq hbq
         have hfb:=HBP.out wq hbq
         have FB:=hid hfb
         obtain⟨c0,c1,c2,c3,z0,z1,z2,z3⟩:=bz4 hfb
         try simp only[bestC,List.getElem?_toArray,List.getElem?_cons_zero,List.getElem?_cons_succ]at c0 c1 c2 c3
         clear hfb
         go_wp2_with fail
         go_roundw
         case rel=>exact⟨k+1,by omega,by go_num,by rw[HX.out]<;>rfl,by rw[HX.out];simpa[bestC] using Qe (i:=3) (Qe (i:=2) (Qe (i:=1) (Qe (i:=0) FB.out _) _) _) _,(((((hbr.trans (hbq.mono (by omega))).setCell (Nat.le_refl _) _).setCell (Nat.le_refl _) _).setCell (Nat.le_refl _) _).setCell (Nat.le_refl _) _)⟩
         case measure=>simp[intOf];omega
   ·obtain rfl:k=l.length:=by omega
    rw[List.take_of_length_le (Nat.le_refl _)]at hbx ⊢
    have hg3r:wr.heap[w.heap.size+1]?=some (.cells #[.slice Ae es.length ce,.slice none 0 0] 25 (0,0)):=(hbr.block _ (by omega)).trans hg3
    have hg2r:wr.heap[w.heap.size]?=some (.cells #[.slice none 0 0,.slice none 0 0] 25 (0,0)):=(hbr.block _ (by omega)).trans hg2
    generalize hbst:l.foldl (selS (lastD es)) none=bst at *
    obtain⟨n,rfl⟩:∃ n,gk=n+1:=⟨gk-1,by have:=hah.out;omega⟩
    have hgo':=hgo.out
    rw[Xj,show es.getLast?.map En.dot=lastD es from rfl,show bestE l (lastD es)=bst from hbst]at hgo'
    cases bst with
    |some y=>
     obtain⟨⟨x,hx,hx1,hx2⟩,hy2⟩:=XZ (show bestE l (lastD es)=some y from hbst)
     have hoky:y.Ok:=by
      obtain⟨j,hj⟩:=List.getElem?_of_mem hx
      obtain⟨b,off,_,hbB,hc⟩:=l3 (by rintro rfl;simp at hj)
      obtain⟨cs,⟨A7,c7,_,_,hok⟩,_,_⟩:=hc j _ hj
      exact hx2▸hok
     have hlt2:=zZr (show bestE l (lastD es)=some y from hbst)
     have HGO:Hid (Xj l n (es++[y])=Z9 l):=hgo'
     have HAH:Hid (ahE l (lastD (es++[y]))<n):=by have:=hah.out;unfold Hid;simp only[lastD,List.getLast?_append,List.getLast?_singleton,Option.some_or,Option.map_some];omega
     have HLE:Hid ((es++[y]).length+ahE l (lastD (es++[y]))<=l.length):=by have:=hle.out;unfold Hid;simp only[lastD,List.getLast?_append,List.getLast?_singleton,Option.some_or,Option.map_some,List.length_append,List.length_singleton];omega
     have HL:Hid (es.length + [y].length<=Few):=by unfold Hid Few;simp;omega
     have HY:Hid (EnE y [.int .i64 y.dc,.int .i64 y.n,.string y.s,.int .i64 y.v]):=⟨rfl,hoky⟩
     have y0:wr.cell? ⟨wo.heap.size,0,none⟩=some (.int .i64 y.dc):=Qa (i:=0) hbx
     have y1:wr.cell? ⟨wo.heap.size,1,none⟩=some (.int .i64 y.n):=Qa (i:=1) hbx
     have y2:wr.cell? ⟨wo.heap.size,2,none⟩=some (.string y.s):=Qa (i:=2) hbx
     have y3:wr.cell? ⟨wo.heap.size,3,none⟩=some (.int .i64 y.v):=Qa (i:=3) hbx
     have z0:wr.cell? ⟨w.heap.size+1,0,none⟩=some (.slice Ae es.length ce):=Qa (i:=0) hg3r
     have HG3:=hid hg3r
     have HG2:=hid hg2r
     have hown':=hown.grow hbr
     clear hgo' hbst hbx hg3r hg2r hg3 hg2 hlt2 hx hx1 hx2 hy2 hoky l3 hsp hown hah hle hgo
     go_wp2_with (at_builtin;go_loud ((with_reducible refine Qk rfl (.tmp 70) (.tmp 72) _ rfl Yy (by decide) (by decide) (fun _ _ h=>h.one) rfl (hown'.alloc _) rfl (SlP.one (x:=y) HY.out rfl _ rfl) HL.out (by rw[World.size_alloc];omega) ?_);intro v1 w1 hown1 hb1 _;obtain⟨A1,c1,rfl⟩:=hown1.shape;have hb2:=((Below.refl (w.heap.size+2) wr).alloc (by omega) _).trans hb1;have hg31:=hid ((hb2.block (w.heap.size+1) (by omega)).trans HG3.out);have hg21:=hid ((hb2.block w.heap.size (by omega)).trans HG2.out);have hc1:w1.cell? ⟨w.heap.size+1,0,none⟩=some (.slice Ae es.length ce):=Qa (i:=0) hg31.out;have hf1:=Qb (i:=0) hg31.out))
     go_roundg n
     case measure=>omega
     case rel=>exact⟨es++[y],_,hown1.setOther (by simp) _,by simpa using Qe (i:=0) hg31.out _,(Below.heap_setCell _ _ _ _ (by simp)).trans hg21.out,by have:=hb2.size;simp[World.setCell];omega,((hB.trans (hb2.mono (by omega))).setCell (by simp) _),HGO,HAH,HLE⟩
    |none=>
     have HES:Hid (es=Z9 l):=hgo'
     have z0:wr.cell? ⟨w.heap.size+1,0,none⟩=some (.slice Ae es.length ce):=Qa (i:=0) hg3r
     have hown':=hown.grow hbr
     clear hgo' hbst hbx hg3 hg2 hsp hown hah hle hgo
     have HG3:=hid hg3r
     have HG2:=hid hg2r
     clear hg3r hg2r z0 hbr
     go_wp2_with fail
     obtain⟨w1,rfl⟩:∃ w1:World,w1=wr:=⟨_,rfl⟩
     go_loopg [8] (l.length+1) (fun n vl wr=>zYo f l w w1 (.slice Ae es.length ce) n vl wr)
     case atStart=>exact⟨ByteArray.empty,[],_,rfl,OwnD.nil,HG3.out,HG2.out,fun _ _=>rfl,Nat.le_refl _,hB,rfl,by have:=qKz l ByteArray.empty;unfold Hid;omega,by have:=qKz l ByteArray.empty;unfold Hid;simp;omega⟩
     case round=>
      obtain⟨last,ks,vk,rfl,hownk,hg3,hg2,hkp,hsw,hBk,hgo,hah,hle⟩:=hrel
      have hszk:=hownk.lt
      have hkl:ks.length<=900000:=by have:=hle.out;omega
      obtain⟨Ak,ck,rfl⟩:=hownk.shape
      go_wp2_with fail
      obtain⟨wo,rfl⟩:∃ wo:World,wo=wr:=⟨_,rfl⟩
      go_loopw [9,77] (fun b i wr=>∃ (k:Nat),k<=l.length/\i=.int .i64 k/\b=.string ((l.take k).foldl (keyS last) ByteArray.empty)/\wr=wo) (fun _ i _=>l.length-(intOf i).toNat)
      case atStart=>exact⟨0,Nat.zero_le _,rfl,rfl,rfl⟩
      case round=>
       obtain⟨k,hk,rfl,rfl,rfl⟩:=hrel
       by_cases hlt:k<l.length
       ·obtain⟨⟨p,x⟩,hx⟩:∃ x,l[k]?=some x:=⟨_,List.getElem?_eq_getElem hlt⟩
        obtain⟨b,off,rfl,hbB,hc⟩:=l3 (by rintro rfl;simp at hlt)
        obtain⟨cs,⟨A7,c7,rfl,hp,hok⟩,_,hu⟩:=hc k _ hx
        have hut:=qJh hx last ByteArray.empty
        have e0:wr.cell? ⟨b,off+k*5,none⟩=some (.slice A7 p.length c7):=(hBk.cell hbB).trans (hu 0 _ rfl)
        generalize hbst:(l.take k).foldl (keyS last) ByteArray.empty=bst at *
        cases p with
        |nil=>
         have HX:Hid ((l.take (k+1)).foldl (keyS last) ByteArray.empty=bst):=by unfold Hid;rw[hut];simp[keyS,keyC]
         simp only[List.length_nil]at e0
         clear hu hx hc l3 hok hp hut hbst hg3 hg2
         go_wp2_with fail
         go_roundw
         case rel=>exact⟨k+1,by omega,by go_num,by rw[HX.out],trivial⟩
         case measure=>simp[intOf];omega
        |cons q qs=>
         obtain⟨A7',c7',hv7,m1,m2,m3⟩:=hp
         simp only[Value.slice.injEq]at hv7
         obtain⟨rfl,_,rfl⟩:=hv7
         obtain⟨b7,o7,rfl,hb7,hc7⟩:=m3 (by simp)
         obtain⟨cs7,⟨rfl,hq7⟩,_,hu7⟩:=hc7 0 q rfl
         have e7:wr.cell? ⟨b7,o7,none⟩=some (.string q):=(hBk.cell (p:=⟨b7,o7,none⟩) hb7).trans (by simpa using hu7 0 _ rfl)
         unfold Big at m2
         obtain⟨np,hnp,hnp0⟩:∃ np,np=(q :: qs).length/\0<np:=⟨_,rfl,by simp⟩
         rw[←hnp]at e0 m1 m2
         have t1:decide ((0:Int)<(np:Int))=true:=by simp;omega
         clear hu hx hc l3 hok hc7 hu7 m3 hnp hbst hg3 hg2
         have hkc:keyC last bst (q :: qs,x)=(ltS last q&&(decide (bst=ByteArray.empty)||ltS q bst)):=rfl
         rw[qKv]at hkc
         rcases g1:Op.bytesLess q.toList last.toList
         case true=>
          have HX:Hid ((l.take (k+1)).foldl (keyS last) ByteArray.empty=bst):=by unfold Hid;rw[hut,keyS,hkc,g1];simp
          clear hut hkc
          go_wp2_with fail
          go_roundw
          case rel=>exact⟨k+1,by omega,by go_num,by rw[HX.out],trivial⟩
          case measure=>simp[intOf];omega
         rcases g2:(q.toList==last.toList)
         case true=>
          have HX:Hid ((l.take (k+1)).foldl (keyS last) ByteArray.empty=bst):=by unfold Hid;rw[hut,keyS,hkc,g2];simp
          have g3:q.toList=last.toList:=by simpa using g2
          clear hut hkc
          go_wp2_with fail
          go_roundw
          case rel=>exact⟨k+1,by omega,by go_num,by rw[HX.out],trivial⟩
          case measure=>simp[intOf];omega
         have g3:¬q.toList=last.toList:=by simpa using g2
         have hkd:keyC last bst (q :: qs,x)=(decide (bst=ByteArray.empty)||ltS q bst):=by rw[hkc,g1,g2];rfl
         clear hkc
         rcases hbe:bst.toList.isEmpty
         ·have hbe3:¬bst.toList=[]:=by simpa using hbe
          have hbe':bst≠ByteArray.empty:=fun e=>by rw[e]at hbe;simp at hbe
          rcases hqb:Op.bytesLess q.toList bst.toList
          ·have HX:Hid ((l.take (k+1)).foldl (keyS last) ByteArray.empty=bst):=by unfold Hid;rw[hut,keyS,hkd,ltS,hqb];simp[hbe']
           clear hut hkd hbe'
           go_wp2_with fail
           go_roundw
           case rel=>exact⟨k+1,by omega,by go_num,by rw[HX.out],trivial⟩
           case measure=>simp[intOf];omega
          ·have HX:Hid ((l.take (k+1)).foldl (keyS last) ByteArray.empty=q):=by unfold Hid;rw[hut,keyS,hkd,ltS,hqb];simp
           clear hut hkd hbe'
           go_wp2_with fail
           go_roundw
           case rel=>exact⟨k+1,by omega,by go_num,by rw[HX.out],trivial⟩
           case measure=>simp[intOf];omega
         ·have hbe3:bst.toList=[]:=by simpa using hbe
          have hbe':bst=ByteArray.empty:=(QM _ _).1 (by simpa using hbe)
          have HX:Hid ((l.take (k+1)).foldl (keyS last) ByteArray.empty=q):=by unfold Hid;rw[hut,keyS,hkd];simp[hbe']
          clear hut hkd hbe'
          go_wp2_with fail
          go_roundw
          case rel=>exact⟨k+1,by omega,by go_num,by rw[HX.out],trivial⟩
          case measure=>simp[intOf];omega
       ·obtain rfl:k=l.length:=by omega
        rw[List.take_of_length_le (Nat.le_refl _),show l.foldl (keyS last) ByteArray.empty=bestK l last from rfl]
        obtain⟨n,rfl⟩:∃ n,gk=n+1:=⟨gk-1,by have:=hah.out;omega⟩
        have hgo':=hgo.out
        rw[ZJ]at hgo'
        by_cases hq:bestK l last=ByteArray.empty
        ·rw[if_pos hq,List.append_nil]at hgo'
         have HKS:=hid hgo'
         have hqe:(bestK l last).toList.isEmpty=true:=by rw[hq];simp
         have hqb:(bestK l last).toList=[]:=by rw[hq];simp
         have c0:wr.cell? ⟨w.heap.size+1,0,none⟩=some (.slice Ae es.length ce):=Qa (i:=0) hg3
         have c1:wr.cell? ⟨w.heap.size+1,1,none⟩=some (.slice Ak ks.length ck):=Qa (i:=1) hg3
         have d0:wr.cell? ⟨w.heap.size,0,none⟩=some (.slice none 0 0):=Qa (i:=0) hg2
         have d1:wr.cell? ⟨w.heap.size,1,none⟩=some (.slice none 0 0):=Qa (i:=1) hg2
         have z0:=Qb (i:=0) hg2
         have z1:=Qb (i:=1) hg2
         have HG2:=hid hg2
         have HG3:=hid hg3
         clear hgo' hq hg2 hg3 hgo hah hle l3
         generalize bestK l last=q at *
         go_wp2_with fail
         have hW0:=Qe (i:=1) (Qe (i:=0) HG2.out (.slice Ae es.length ce)) (.slice Ak ks.length ck)
         have hKW:∀ b,w.heap.size+2<=b->((wr.setCell ⟨w.heap.size,0,none⟩ (.slice Ae es.length ce)).setCell ⟨w.heap.size,1,none⟩ (.slice Ak ks.length ck)).heap[b]?=wr.heap[b]?:=fun b hb=>(Below.heap_setCell _ _ _ _ (by simp;omega)).trans (Below.heap_setCell _ _ _ _ (by simp;omega))
         have hSW:((wr.setCell ⟨w.heap.size,0,none⟩ (.slice Ae es.length ce)).setCell ⟨w.heap.size,1,none⟩ (.slice Ak ks.length ck)).heap.size=wr.heap.size:=by simp[World.setCell]
         have hBW:Below w.heap.size w ((wr.setCell ⟨w.heap.size,0,none⟩ (.slice Ae es.length ce)).setCell ⟨w.heap.size,1,none⟩ (.slice Ak ks.length ck)):=(hBk.setCell (Nat.le_refl _) _).setCell (Nat.le_refl _) _
         generalize (wr.setCell ⟨w.heap.size,0,none⟩ (.slice Ae es.length ce)).setCell ⟨w.heap.size,1,none⟩ (.slice Ak ks.length ck)=W at *
         have r0:W.cell? ⟨w.heap.size,0,none⟩=some (.slice Ae es.length ce):=(Qa (i:=0) hW0).trans (by simp)
         have r1:W.cell? ⟨w.heap.size,1,none⟩=some (.slice Ak ks.length ck):=(Qa (i:=1) hW0).trans (by simp)
         clear c0 c1 d0 d1 z0 z1 hqe hqb
         refine bodyPost_ret (v:=.agg #[.slice Ae es.length ce,.slice Ak ks.length ck]) (by simp[results,Tryz.results43,go_sem,r0,r1]) rfl ⟨_,_,rfl,?_,hBW⟩
         rw[←HES.out,←HKS.out,Zh]
         refine⟨(hown'.sla (by unfold Big;omega)).up (fun b hb=>(hKW b hb.1).trans (hkp b ⟨hb.1,hb.2.1⟩)) (fun b hb=>⟨by have:=hb.1;omega,by have:=hb.2.1;omega⟩) (fun _ _ _ h=>h),(OwnP.sla hownk (by unfold Big;omega)).up (fun b hb=>hKW b (by have:=hb.1;omega)) (fun b hb=>⟨by have:=hb.1;omega,by have:=hb.2.1;omega⟩) ?_⟩
         intro x _ cs hx
         exact KdA.mon.up (fun b hb=>hKW b (by have:=hb.1;omega)) (fun b hb=>⟨by have:=hb.1;omega,by have:=hb.2.1;omega⟩) hx
        ·rw[if_neg hq]at hgo'
         have hlt2:=zZs hq
         obtain⟨⟨x,hx,qs,hxe⟩,_⟩:=X0 hq
         have IHQ:=hid (IH.out x hx _ _ hxe)
         generalize hqd:bestK l last=q at *
         have hqb:(q.toList==([]:List UInt8))=false:=by simp;exact fun e=>hq ((QM _ _).1 (by simpa using e))
         have hqe:q.toList.isEmpty=false:=by simpa using hqb
         have hqs:q.size<=Big:=by
          obtain⟨j,hj⟩:=List.getElem?_of_mem hx
          obtain⟨b,off,_,hbB,hc⟩:=l3 (by rintro rfl;simp at hj)
          obtain⟨cs,⟨A7,c7,_,⟨_,_,_,_,_,hp⟩,hok⟩,_,_⟩:=hc j _ hj
          obtain⟨b7,o7,_,_,hc7⟩:=hp (by rw[hxe];simp)
          obtain⟨cs7,⟨_,hq7⟩,_,_⟩:=hc7 0 q (by rw[hxe];rfl)
          exact hq7
         have HQS:=hid hqs
         have HGO:Hid ((ks++[(q,f (Qt l q))])++ZJ f l n q=ZJ f l (l.length+1) ByteArray.empty):=by unfold Hid;rw[←hgo'];simp
         have HAH:Hid (ahK l q<n):=by have:=hah.out;unfold Hid;omega
         have HLE:Hid ((ks++[(q,f (Qt l q))]).length+ahK l q<=l.length):=by have:=hle.out;unfold Hid;simp;omega
         have HL:Hid (ks.length + [(q,f (Qt l q))].length<=Few):=by unfold Hid Few;simp;omega
         have HG3:=hid hg3
         have HG2:=hid hg2
         have HKP:=hid hkp
         have HGW:Hid (∀ W,Below wr.heap.size wr W->W.heap[w.heap.size+1]?=some (.cells #[.slice Ae es.length ce,.slice Ak ks.length ck] 25 (0,0))):=fun W hW=>(hW.block _ (by omega)).trans hg3
         have HS:Hid (∀ w',Below wr.heap.size wr w'->w'.cell? ⟨w.heap.size+1,1,none⟩=some (.slice Ak ks.length ck)):=fun w' hb'=>(hb'.cell (p:=⟨w.heap.size+1,1,none⟩) (by simp;omega)).trans (Qa (i:=1) hg3)
         clear l3 hgo' hlt2 hx hxe hq hqs hg3 hg2 hkp hgo hah hle
         have HOWN:Hid (∀ W,Below wr.heap.size wr W->OwnD W w1.heap.size 96 3 KdA (fun b=>w1.heap.size<=b) (.slice Ak ks.length ck) ks):=fun W hW=>hownk.grow KdA.mon hW
         have HUL:Hid ((Qt l q).length<=Big):=by have:=Ye l q;unfold Hid Big;omega
         have HW0:Hid (Below w.heap.size w wr):=hBk
         have hw1:w.heap.size+1<w1.heap.size:=by omega
         clear hownk hBk
         go_upto_region 23 with (fail)
         have z1:=HS.out wr (Below.refl _ _)
         have z2:=HS.out wr.drew ((Below.refl _ _).drew)
         go_region_law
          (first
              |(go_simp;go_at_call 81;go_loud ((refine (Jp l q (fun _=>True) _ _ (HLW.out _ HW0.out.drew) hN).mono ?_);rintro e w2 ⟨vU,rfl,hU,hb2⟩;have hb2:Below wr.heap.size wr w2:=((Below.refl wr.heap.size wr).drew).trans hb2;have hc2:=HS.out w2 hb2))
              |(go_simp;go_at_call 43;go_loud ((refine (IHQ.out _ _ ((hU.sl LfA.mon HUL.out).imp (Below.refl _ _) (Nat.le_refl _) (fun _ _ _ hx=>LfA.mon.up (fun _ _=>rfl) (fun b hb=>hb.2) hx))).mono ?_);rintro e w3 ⟨ve3,vk3,rfl,hrd,hb3⟩;obtain⟨Av,nv,Aw,nw,rfl,rfl⟩:=Ql hrd;have hs2:=hb2.size;have hb3':=hid (hb2.trans (hb3.mono hb2.size));have hc3:=HS.out w3 hb3'.out;have hc3a:=fun (o:Obj)=>HS.out (w3.alloc o) (hb3'.out.alloc hb3'.out.size o)))
              |(have hQ3:=hb3';go_loud ((refine YA (v:=.slice Ak ks.length ck) rfl (.tmp 125) (.tmp 132) _ rfl KdA.mon eiKid (by decide) (by decide) rfl (HOWN.out _ (hb3'.out.alloc hb3'.out.size _)) rfl (qK0 hrd HQS.out (fun b hb=>⟨hb.2,by have:=hb.1;simp only[World.size_drew]at *;omega,by rw[World.size_alloc];have:=hb.2;omega,fun e=>by have:=hszk b e;have:=hb.1;simp only[World.size_drew]at *;omega⟩) _ (by rw[World.size_alloc];omega)) HL.out (by rw[World.size_alloc];have:=hb3'.out.size;omega) ?_);intro v1 w4 hown4 hb4 _ _;have hsh4:∃ A c,v1=.slice A (ks++[(q,f (Qt l q))]).length c:=OwnP.shape hown4;obtain⟨A1,c1,hv1⟩:=hsh4;subst hv1;have hg34:=hid ((hb4.block _ hw1).trans (HGW.out _ (hb3'.out.alloc hb3'.out.size _)));have hc4:w4.cell? ⟨w.heap.size+1,1,none⟩=some (.slice Ak ks.length ck):=Qa (i:=1) hg34.out;have hf4:=Qb (i:=1) hg34.out)))
         all_goals go_wp2_with fail
         all_goals (go_roundg n;(case measure=>omega);(case rel=>
          have hW:=hb3'.out.alloc hb3'.out.size (.cells #[.string q,.slice Av (f (Qt l q)).es.length nv,.slice Aw (f (Qt l q)).ks.length nw] 96)
          have hwo:=hsw
          exact⟨q,ks++[(q,f (Qt l q))],_,rfl,OwnD.setOther hown4 KdA.mon hw1 (by simp;omega) _,by simpa using Qe (i:=1) hg34.out _,
           (Below.heap_setCell _ _ _ _ (by simp)).trans ((hb4.block _ (by omega)).trans ((hW.block _ (by omega)).trans HG2.out)),
           fun b hb=>(Below.heap_setCell _ _ _ _ (by have:=hb.1;simp;omega)).trans ((hb4.block _ hb.2).trans ((hW.block _ (by have:=hb.2;omega)).trans (HKP.out b hb))),
           by have:=hb4.size;have:=hW.size;simp[World.setCell]at *;omega,(((HW0.out.trans (hW.mono (by omega))).trans (hb4.mono (by omega))).setCell (by simp) _),HGO,HAH,HLE⟩))
theorem Jq:∀ (d:Nat) (l:List Lf) (vl:Value) (w:World),(∀ x∈l,x.1.length<=d)->SlP w w.heap.size 5 (LfA w (fun b=>b<w.heap.size)) vl l->l.length<=900000 ->
  Calls Tryz.prog 43 #[vl] w fun e w'=>∃ ve vk,e=.returned (.agg #[ve,vk])/\(JH d l).rda w' (fun b=>w.heap.size<=b/\b<w'.heap.size) ve vk/\Below w.heap.size w w'
 |0,l,vl,w,hd,h,hN=>VP _ l vl w (fun x hx q qs hq=>absurd (hd x hx) (by rw[hq];simp)) h hN
 |d+1,l,vl,w,hd,h,hN=>VP _ l vl w (fun x hx q qs hq vl w h=>Jq d _ vl w (fun y hy=>by
   unfold Qt at hy
   obtain⟨z,hz,hzy⟩:=List.mem_filterMap.1 hy
   obtain⟨p,e⟩:=z
   have:=hd _ hz
   cases p with
   |nil=>cases hzy
   |cons u us=>
    simp only[Yd]at hzy
    split at hzy
    ·cases hzy;simp at this;exact this
    ·cases hzy) h (Nat.le_trans (Ye l q) hN)) h hN
theorem V0 {α:Type}{P:Program}{ops:Array Oper}{o:Oper}{a:Act}{K:Act->World->Prop}{Q:Exit->Act->World->Prop}{F:Prop}{w:World}(hg:o.guard=none)(s x:Operand)(t:TypeId)
  (hop:o.op=.call { callee:=.builtin .append,args:=#[s,x],argTypes:=#[t,t] }){e:TypeId}{sz bytes base B:Nat}{E:α->List Value->Prop}{v sv:Value}{xs ys:List α}(hi:Qr P t e sz bytes) (hsz:0<sz) (hby:bytes<=1000)
  (hone:∀ x cs,E x cs->∀ u∈cs,u.oneCell'=true) (hs:a.eval s=v) (hown:OwnP w base e sz E v xs) (hx:a.eval x=sv) (hys:SlP w B sz E sv ys) (hl:xs.length+ys.length<=Few) (hbase:base<=w.heap.size)
  (h:∀ v' w',OwnP w' base e sz E v' (xs++ys)->Below base w w'->w.grownBy w' v.ownBlock->(v'.ownBlock=v.ownBlock∨v'.ownBlock=some w.heap.size)->K (a.put o.dst v') w') :
  if Region.wanted o (yielded ops a.tmps)=true then Oper.wp P o a w K Q else F:=by
 have hw:Region.wanted o (yielded ops a.tmps)=true:=by simp[Region.wanted,hg]
 rw[if_pos hw]
 unfold Few at hl
 obtain⟨v',w',r1,r2,r3,r4⟩:=Vj (P:=P) (ty:=o.type) hi hsz hone hown hys (Nat.le_trans (Nat.mul_le_mul hl hby) (by omega)) (by unfold Big;omega) hbase
 unfold Oper.wp execOp
 simp only[hop,resolve,invoke,builtin,Sem.run_bind,Sem.run_pure,Result.andThen_ok,List.map_toArray,List.map_cons,List.map_nil,hs,hx,r1]
 exact h v' w' r2 ((Below.refl base w).grown r3 hbase fun g hg=>(hown.lt g hg).1) r3 r4
structure Rows4 {α:Type}(w:World)(base Bp:Nat)(T e:TypeId)(sz:Nat)(E:α->List Value->Prop)(vs:Nat->Value)(ls:Nat->List α):Prop where
 arr:w.heap[Bp]?=some (.cells #[vs 0,vs 1,vs 2,vs 3] T (0,0))
 lo:Bp<base
 own:∀ i,i<4->OwnP w base e sz E (vs i) (ls i)
 apart:∀ i j,i<4->j<4->i≠j->∀ g,(vs i).ownBlock=some g->(vs j).ownBlock≠some g
section
variable {α:Type}{w w':World}{base Bp:Nat}{T e:TypeId}{sz:Nat}{E:α->List Value->Prop}{vs:Nat->Value}{ls:Nat->List α}
theorem ZC {β:Type}(f:Nat->β){d:Nat}(h:d<4):(#[f 0,f 1,f 2,f 3]:Array β)[d]?=some (f d):=by
 match d,h with
 |0,_=>rfl
 |1,_=>rfl
 |2,_=>rfl
 |3,_=>rfl
theorem Vu {β:Type}(f:Nat->β){d:Nat}(h:d<4)(x:β):(#[f 0,f 1,f 2,f 3]:Array β).setIfInBounds d x =
  #[(fun i=>if i=d then x else f i) 0,(fun i=>if i=d then x else f i) 1,(fun i=>if i=d then x else f i) 2,(fun i=>if i=d then x else f i) 3]:=by
 match d,h with
 |0,_=>simp
 |1,_=>simp
 |2,_=>simp
 |3,_=>simp
theorem Rows4.start (h:w.heap[Bp]?=some (.cells #[.slice none 0 0,.slice none 0 0,.slice none 0 0,.slice none 0 0] T (0,0)))(hlo:Bp<base):Rows4 w base Bp T e sz E (fun _=>.slice none 0 0) (fun _=>([]:List α)):=
 ⟨h,hlo,fun _ _=>OwnP.nil,fun _ _ _ _ _ g hg=>by cases hg⟩
theorem Rows4.at (h:Rows4 w base Bp T e sz E vs ls){d:Nat}(hd:d<4):w.cell? ⟨Bp,d,none⟩=some (vs d):=(Qa h.arr).trans (ZC vs hd)
theorem Rows4.frz (h:Rows4 w base Bp T e sz E vs ls)(d:Nat):w.frozen? ⟨Bp,d,none⟩=false:=Qb h.arr
theorem Rows4.grow (h:Rows4 w base Bp T e sz E vs ls)(hb:Below w.heap.size w w'):Rows4 w' base Bp T e sz E vs ls:=
 ⟨(hb.block _ (Array.getElem?_eq_some_iff.1 h.arr).1).trans h.arr,h.lo,fun i hi=>(h.own i hi).grow hb,h.apart⟩
theorem Rows4.same (h:Rows4 w base Bp T e sz E vs ls)(hb:w'.heap=w.heap):Rows4 w' base Bp T e sz E vs ls:=
 ⟨by rw[hb];exact h.arr,h.lo,fun i hi=>(h.own i hi).keep fun _ _=>by rw[hb],h.apart⟩
theorem Rows4.sl (h:Rows4 w base Bp T e sz E vs ls){d:Nat}(hd:d<4)(hl:(ls d).length<=Big):SlP w w.heap.size sz E (vs d) (ls d):=(h.own d hd).sl hl
theorem Rows4.put (h:Rows4 w base Bp T e sz E vs ls){d:Nat}(hd:d<4){v':Value}{xs:List α}(ho:OwnP w' base e sz E v' xs)(hg:w.grownBy w' (vs d).ownBlock)(hv:v'.ownBlock=(vs d).ownBlock∨v'.ownBlock=some w.heap.size) :
  Rows4 (w'.setCell ⟨Bp,d,none⟩ v') base Bp T e sz E (fun i=>if i=d then v' else vs i) (fun i=>if i=d then xs else ls i):=by
 have hBp:w'.heap[Bp]?=some (.cells #[vs 0,vs 1,vs 2,vs 3] T (0,0)):=
  (hg.block Bp (Array.getElem?_eq_some_iff.1 h.arr).1 (fun e=>by have:=(h.own d hd).lt Bp e.symm;have:=h.lo;omega)).trans h.arr
 refine⟨?_,h.lo,fun i hi=>?_,fun i j hi hj hij g hgi=>?_⟩
 ·rw[Qe hBp v',Vu vs hd v']
 ·by_cases e:i=d
  ·subst e;simp only[if_pos];exact ho.setOther h.lo v'
  ·simp only[if_neg e]
   refine ((h.own i hi).keep fun g hgi=>?_).setOther h.lo v'
   exact hg.block g ((h.own i hi).lt g hgi).2 (fun e'=>h.apart i d hi hd e g hgi e'.symm)
 ·by_cases e:i=d
  ·subst e
   simp only[if_pos]at hgi
   rw[if_neg (fun e'=>hij e'.symm)]
   intro hgj
   rcases hv with hv|hv
   ·rw[hv]at hgi;exact h.apart i j hi hj hij g hgi hgj
   ·rw[hv]at hgi;cases hgi;exact absurd ((h.own j hj).lt _ hgj).2 (Nat.lt_irrefl _)
  ·simp only[if_neg e]at hgi
   by_cases e2:j=d
   ·subst e2
    rw[if_pos rfl]
    intro hgj
    rcases hv with hv|hv
    ·rw[hv]at hgj;exact h.apart i j hi hj hij g hgi hgj
    ·rw[hv]at hgj;cases hgj;exact absurd ((h.own i hi).lt _ hgi).2 (Nat.lt_irrefl _)
   ·rw[if_neg e2];exact h.apart i j hi hj hij g hgi
end
theorem SlA.shape {α:Type}{w:World}{ok:Nat->Prop}{sz:Nat}{E:α->List Value->Prop}{v:Value}{xs:List α}(h:SlA w ok sz E v xs):∃ A c,v=.slice A xs.length c:=by
 obtain⟨A,c,rfl,_⟩:=h;exact⟨A,c,rfl⟩
theorem SlA.slp {α:Type}{w w':World}{ok:Nat->Prop}{sz:Nat}{E:α->List Value->Prop}{v:Value}{xs:List α}(h:SlA w ok sz E v xs)(hk:∀ b,ok b->b<w.heap.size)(hb:Below w.heap.size w w'):SlP w' w'.heap.size sz E v xs:=
 Z8.2 (h.up (fun b hb'=>hb.block b (hk b hb')) (fun b hb'=>Nat.lt_of_lt_of_le (hk b hb') hb.size) (fun _ _ _ h=>h))
theorem Zx {w w':World}{ok:Nat->Prop}{t:Tr}{ve vk:Value}(h:t.rda w ok ve vk)(hk:∀ b,ok b->b<w.heap.size)(hb:Below w.heap.size w w'):t.rd w' w'.heap.size ve vk:=
 (zZq t ve vk).2 (Qs (fun b hb'=>hb.block b (hk b hb')) (fun b hb'=>Nat.lt_of_lt_of_le (hk b hb') hb.size) t ve vk h)
def dcsOk:Int->List Sp->Bool
 |_,[]=>true
 |last,s :: c=>decide (last<=s.dc)&&decide (s.dc<4)&&dcsOk s.dc c
def Qm (c:List Sp):Bool:=dcsOk 0 c&&(List.range 4).all fun (dc:Nat)=>runsR none (partL c dc)
def RetA (w:World)(c:List Sp)(e:Ending)(w':World):Prop:=
 ∃ vs:Nat->Value,e=.returned (.tuple #[.agg #[vs 0,vs 1,vs 2,vs 3],.bool (Qm c)])/\(∀ i,i<4->SlA w' (fun b=>w.heap.size<=b/\b<w'.heap.size) 2 RuE (vs i) (if Qm c then partL c i else []))/\Below w.heap.size w w'
def ApA (c:List Sp)(w:World)(k:Nat)(wr:World):Prop:=
 ∃ vs:Nat->Value,Rows4 wr (w.heap.size+2) (w.heap.size+1) 162 167 2 RuE vs (fun i=>partL (c.take k) i) /\
  wr.heap[w.heap.size]?=some (.cells #[.slice none 0 0,.slice none 0 0,.slice none 0 0,.slice none 0 0] 162 (0,0))/\Below w.heap.size w wr
theorem Xv (c:List Sp)(vc:Value)(w:World)(h:SlP w w.heap.size 3 SpE vc c)(hN:c.length<=900000) :
  Calls Tryz.prog 133 #[vc] w (RetA w c):=by
 obtain⟨A,n,rfl,b1,b2,b3⟩:=h
 unfold Big at b2
 go_enter Tryz.func133,Tryz.ntmps133
 go_wp2_with fail
 go_loopw [5,12] (fun l i wr=>∃ (k:Nat) (L:Int),k<=c.length/\i=.int .i64 k/\l=.int .i64 L/\0<=L/\L<=4/\Hid (dcsOk L (c.drop k)=dcsOk 0 c)/\ApA c w k wr) (fun _ i _=>c.length-(intOf i).toNat)
 case atStart=>
  refine⟨0,0,Nat.zero_le _,rfl,rfl,by omega,by omega,rfl,fun _=>.slice none 0 0,Rows4.start (Qd (by simp)) (by omega),?_,((Below.refl _ w).alloc (Nat.le_refl _) _).alloc (by simp) _⟩
  rw[Qg (by simp)];exact Qd rfl
 case round=>
  obtain⟨k,L,hk,rfl,rfl,hL0,hL1,hrel,vs,hr4,hg2,hb⟩:=hrel
  have hsz:=hb.size
  have hsz2:w.heap.size+1<wr.heap.size:=(Array.getElem?_eq_some_iff.1 hr4.arr).1
  have hsz3:w.heap.size<wr.heap.size:=by omega
  have hsz4:w.heap.size≠wr.heap.size:=by omega
  have hsz5:w.heap.size+1≠wr.heap.size:=by omega
  by_cases hlt:k<c.length
  ·obtain⟨⟨dc,fr,hi⟩,hx⟩:∃ x,c[k]?=some x:=⟨_,List.getElem?_eq_getElem hlt⟩
   obtain⟨b,off,rfl,hbB,hc⟩:=b3 (by rintro rfl;simp at hlt)
   obtain⟨cs,⟨rfl,hok⟩,_,hu⟩:=hc k _ hx
   have e0:wr.cell? ⟨b,off+k*3,none⟩=some (.int .i64 dc):=(hb.cell hbB).trans (hu 0 _ rfl)
   have e1:wr.cell? ⟨b,off+k*3+1,none⟩=some (.int .i64 fr):=(hb.cell hbB).trans (hu 1 _ rfl)
   have e2:wr.cell? ⟨b,off+k*3+2,none⟩=some (.int .i64 hi):=(hb.cell hbB).trans (hu 2 _ rfl)
   have HD:Hid (dcsOk 0 c=(decide (L<=dc)&&decide (dc<4)&&dcsOk dc (c.drop (k+1)))):=by
    have:=hrel.out
    rw[QJ hx]at this
    exact this.symm
   have HG:=hid hg2
   have HR4:=hid hr4
   have HP:∀ (d:Nat),(dc=(d:Int))->Hid ((fun i:Nat=>partL (c.take (k+1)) i)=fun i=>if i=d then partL (c.take k) d++[(fr,hi)] else partL (c.take k) i):=fun d hd=>by
    unfold Hid;funext i
    rw[KI hx]
    by_cases e:i=d
    ·subst e;rw[if_pos rfl,if_pos (by exact hd)]
    ·rw[if_neg e,if_neg (by show ¬dc=(i:Int);omega),List.append_nil]
   have hpl:=QK (c.take k)
   clear hu hx hc b3 hrel hg2 hr4
   by_cases h1:dc<L∨4<=dc
   ·have HF:Hid (Qm c=false):=by
     unfold Hid Qm
     rw[HD.out]
     rcases h1 with h1|h1
     ·rw[show decide (L<=dc)=false by simp;omega];simp
     ·rw[show decide (dc<4)=false by simp;omega];simp
    have z0:=Qb (i:=0) HG.out
    have z1:=Qb (i:=1) HG.out
    have z2:=Qb (i:=2) HG.out
    have z3:=Qb (i:=3) HG.out
    have c0:wr.cell? ⟨w.heap.size,0,none⟩=some (.slice none 0 0):=Qa (i:=0) HG.out
    have c1:wr.cell? ⟨w.heap.size,1,none⟩=some (.slice none 0 0):=Qa (i:=1) HG.out
    have c2:wr.cell? ⟨w.heap.size,2,none⟩=some (.slice none 0 0):=Qa (i:=2) HG.out
    have c3:wr.cell? ⟨w.heap.size,3,none⟩=some (.slice none 0 0):=Qa (i:=3) HG.out
    have hz:=HG
    have hBz:=hb
    by_cases h2:dc<L
    ·go_wp2_with fail
     have hW0:=Qe (i:=3) (Qe (i:=2) (Qe (i:=1) (Qe (i:=0) hz.out (.slice none 0 0)) (.slice none 0 0)) (.slice none 0 0)) (.slice none 0 0)
     have hBW:Below w.heap.size w ((((((wr).setCell ⟨w.heap.size,0,none⟩ (.slice none 0 0)).setCell ⟨w.heap.size,1,none⟩ (.slice none 0 0)).setCell ⟨w.heap.size,2,none⟩ (.slice none 0 0)).setCell ⟨w.heap.size,3,none⟩ (.slice none 0 0))):=(((hBz.setCell (Nat.le_refl _) _).setCell (Nat.le_refl _) _).setCell (Nat.le_refl _) _).setCell (Nat.le_refl _) _
     clear c0 c1 c2 c3 z0 z1 z2 z3
     generalize (((((wr).setCell ⟨w.heap.size,0,none⟩ (.slice none 0 0)).setCell ⟨w.heap.size,1,none⟩ (.slice none 0 0)).setCell ⟨w.heap.size,2,none⟩ (.slice none 0 0)).setCell ⟨w.heap.size,3,none⟩ (.slice none 0 0))=W at *
     have hWs:w.heap.size<W.heap.size:=(Array.getElem?_eq_some_iff.1 hW0).1
     have r0:(W.alloc (.cells #[.int .i64 dc,.int .i64 fr,.int .i64 hi] 45)).cell? ⟨w.heap.size,0,none⟩=some (.slice none 0 0):=(Qa (i:=0) (((Qg hWs).trans) hW0)).trans (by simp)
     have r1:(W.alloc (.cells #[.int .i64 dc,.int .i64 fr,.int .i64 hi] 45)).cell? ⟨w.heap.size,1,none⟩=some (.slice none 0 0):=(Qa (i:=1) (((Qg hWs).trans) hW0)).trans (by simp)
     have r2:(W.alloc (.cells #[.int .i64 dc,.int .i64 fr,.int .i64 hi] 45)).cell? ⟨w.heap.size,2,none⟩=some (.slice none 0 0):=(Qa (i:=2) (((Qg hWs).trans) hW0)).trans (by simp)
     have r3:(W.alloc (.cells #[.int .i64 dc,.int .i64 fr,.int .i64 hi] 45)).cell? ⟨w.heap.size,3,none⟩=some (.slice none 0 0):=(Qa (i:=3) (((Qg hWs).trans) hW0)).trans (by simp)
     have hBX:Below w.heap.size w (W.alloc (.cells #[.int .i64 dc,.int .i64 fr,.int .i64 hi] 45)):=(fun h=>h.alloc (by omega) _) hBW
     refine bodyPost_ret (v:=.tuple #[.agg #[.slice none 0 0,.slice none 0 0,.slice none 0 0,.slice none 0 0],.bool false]) (by simp[results,Tryz.results133,go_sem,r0,r1,r2,r3]) rfl ⟨fun _=>.slice none 0 0,by rw[HF.out],fun i _=>by rw[HF.out];exact⟨none,0,rfl,Nat.le_refl _,by simp,fun h=>absurd rfl h⟩,hBX⟩
    ·have h4:4<=dc:=by omega
     go_wp2_with fail
     have hW0:=Qe (i:=3) (Qe (i:=2) (Qe (i:=1) (Qe (i:=0) hz.out (.slice none 0 0)) (.slice none 0 0)) (.slice none 0 0)) (.slice none 0 0)
     have hBW:Below w.heap.size w ((((((wr).setCell ⟨w.heap.size,0,none⟩ (.slice none 0 0)).setCell ⟨w.heap.size,1,none⟩ (.slice none 0 0)).setCell ⟨w.heap.size,2,none⟩ (.slice none 0 0)).setCell ⟨w.heap.size,3,none⟩ (.slice none 0 0))):=(((hBz.setCell (Nat.le_refl _) _).setCell (Nat.le_refl _) _).setCell (Nat.le_refl _) _).setCell (Nat.le_refl _) _
     clear c0 c1 c2 c3 z0 z1 z2 z3
     generalize (((((wr).setCell ⟨w.heap.size,0,none⟩ (.slice none 0 0)).setCell ⟨w.heap.size,1,none⟩ (.slice none 0 0)).setCell ⟨w.heap.size,2,none⟩ (.slice none 0 0)).setCell ⟨w.heap.size,3,none⟩ (.slice none 0 0))=W at *
     have hWs:w.heap.size<W.heap.size:=(Array.getElem?_eq_some_iff.1 hW0).1
     have r0:(W.alloc (.cells #[.int .i64 dc,.int .i64 fr,.int .i64 hi] 45)).cell? ⟨w.heap.size,0,none⟩=some (.slice none 0 0):=(Qa (i:=0) (((Qg hWs).trans) hW0)).trans (by simp)
     have r1:(W.alloc (.cells #[.int .i64 dc,.int .i64 fr,.int .i64 hi] 45)).cell? ⟨w.heap.size,1,none⟩=some (.slice none 0 0):=(Qa (i:=1) (((Qg hWs).trans) hW0)).trans (by simp)
     have r2:(W.alloc (.cells #[.int .i64 dc,.int .i64 fr,.int .i64 hi] 45)).cell? ⟨w.heap.size,2,none⟩=some (.slice none 0 0):=(Qa (i:=2) (((Qg hWs).trans) hW0)).trans (by simp)
     have r3:(W.alloc (.cells #[.int .i64 dc,.int .i64 fr,.int .i64 hi] 45)).cell? ⟨w.heap.size,3,none⟩=some (.slice none 0 0):=(Qa (i:=3) (((Qg hWs).trans) hW0)).trans (by simp)
     have hBX:Below w.heap.size w (W.alloc (.cells #[.int .i64 dc,.int .i64 fr,.int .i64 hi] 45)):=(fun h=>h.alloc (by omega) _) hBW
     refine bodyPost_ret (v:=.tuple #[.agg #[.slice none 0 0,.slice none 0 0,.slice none 0 0,.slice none 0 0],.bool false]) (by simp[results,Tryz.results133,go_sem,r0,r1,r2,r3]) rfl ⟨fun _=>.slice none 0 0,by rw[HF.out],fun i _=>by rw[HF.out];exact⟨none,0,rfl,Nat.le_refl _,by simp,fun h=>absurd rfl h⟩,hBX⟩
   ·obtain⟨d,rfl⟩:∃ d:Nat,dc=(d:Int):=⟨dc.toNat,by omega⟩
    have hd4:d<4:=by omega
    have hdi:(d:Int)<4:=by omega
    have hdL:L<=(d:Int):=by omega
    have HDR:Hid (dcsOk (d:Int) (c.drop (k+1))=dcsOk 0 c):=by
     unfold Hid;rw[HD.out,show decide (L<=(d:Int))=true by simp;omega,show decide ((d:Int)<4)=true by simp;omega];rfl
    have HPD:=HP d rfl
    have HL:Hid ((partL (c.take k) d).length + [(fr,hi)].length<=Few):=by have:=hpl d;rw[List.length_take]at this;unfold Hid Few;simp;omega
    have HRE:Hid (RuE (fr,hi) [.int .i64 fr,.int .i64 hi]):=⟨rfl,hok.fr,hok.hi⟩
    have hbp:wr.cell? ⟨w.heap.size+1,d,none⟩=some (vs d):=HR4.out.at hd4
    have HOWN:Hid (∀ W,Below wr.heap.size wr W->OwnP W (w.heap.size+2) 167 2 RuE (vs d) (partL (c.take k) d)):=fun W hW=>(HR4.out.own d hd4).grow hW
    have HLT:=hid ((HR4.out.own d hd4).lt)
    have HGB:Hid (∀ W3 w4,Below wr.heap.size wr W3->W3.grownBy w4 (vs d).ownBlock->∀ b,b<w.heap.size+2->w4.heap[b]?=wr.heap[b]?):=fun W3 w4 h3 h4 b hb=>
     (h4.block b (by have:=h3.size;omega) (fun e=>by have:=HLT.out b e.symm;omega)).trans (h3.block b (by omega))
    clear HP hpl h1 hok HD
    go_wp2_with fail
    refine ZP (S:=fun w'=>w'.cell? ⟨wr.heap.size,0,none⟩=some (.int .i64 (d:Int))/\w'.cell? ⟨wr.heap.size,1,none⟩=some (.int .i64 fr)/\w'.cell? ⟨wr.heap.size,2,none⟩=some (.int .i64 hi)/\w'.cell? ⟨w.heap.size+1,d,none⟩=some (vs d)) 14 (by kernel_rfl) (by kernel_rfl) ?_
    simp only[List.take_succ_cons,List.take_zero,List.drop_succ_cons,List.drop_zero]
    have hHeld:(fun w':World=>w'.cell? ⟨wr.heap.size,0,none⟩=some (.int .i64 (d:Int))/\w'.cell? ⟨wr.heap.size,1,none⟩=some (.int .i64 fr)/\w'.cell? ⟨wr.heap.size,2,none⟩=some (.int .i64 hi)/\w'.cell? ⟨w.heap.size+1,d,none⟩=some (vs d)) (wr.alloc (.cells #[.int .i64 (d:Int),.int .i64 fr,.int .i64 hi] 45)).drew:=by go_keep
    refine wpAnyH_take (i:=0) (oi:=_) (v:=?v0) rfl (by kernel_rfl) (by kernel_rfl) (by kernel_rfl) (fun _ _ _ h=>h) (Or.inl ⟨by rfl,?h0⟩) (by assumption) ?_
    case h0=>(intro w hSw;(try dsimp only at hSw);go_simp;(try with_reducible rfl))
    simp only[Act.put,List.setIfInBounds_toArray]
    refine wpAnyH_take (i:=1) (oi:=_) (v:=?v1) rfl (by kernel_rfl) (by kernel_rfl) (by kernel_rfl) (fun _ _ _ h=>h) (Or.inl ⟨by rfl,?h1⟩) (by assumption) ?_
    case h1=>(intro w hSw;(try dsimp only at hSw);go_simp;(try with_reducible rfl))
    simp only[Act.put,List.setIfInBounds_toArray]
    refine wpAnyH_take (i:=2) (oi:=_) (v:=?v2) rfl (by kernel_rfl) (by kernel_rfl) (by kernel_rfl) (fun _ _ _ h=>h) (Or.inl ⟨by rfl,?h2⟩) (by assumption) ?_
    case h2=>(intro w hSw;(try dsimp only at hSw);go_simp;(try with_reducible rfl))
    simp only[Act.put,List.setIfInBounds_toArray]
    refine wpAnyH_take (i:=3) (oi:=_) (v:=?v3) rfl (by kernel_rfl) (by kernel_rfl) (by kernel_rfl) (fun _ _ _ h=>h) (Or.inl ⟨by rfl,?h3⟩) (by assumption) ?_
    case h3=>(intro w hSw;(try dsimp only at hSw);go_simp;(try with_reducible rfl))
    simp only[Act.put,List.setIfInBounds_toArray]
    refine wpAnyH_take (i:=4) (oi:=_) (v:=?v4) rfl (by kernel_rfl) (by kernel_rfl) (by kernel_rfl) (fun _ _ _ h=>h) (Or.inl ⟨by rfl,?h4⟩) (by assumption) ?_
    case h4=>(intro w hSw;(try dsimp only at hSw);go_simp;(try with_reducible rfl))
    simp only[Act.put,List.setIfInBounds_toArray]
    refine wpAnyH_take (i:=5) (oi:=_) (v:=?v5) rfl (by kernel_rfl) (by kernel_rfl) (by kernel_rfl) (fun _ _ _ h=>h) (Or.inl ⟨by rfl,?h5⟩) (by assumption) ?_
    case h5=>(intro w hSw;(try dsimp only at hSw);go_simp;(try with_reducible rfl))
    simp only[Act.put,List.setIfInBounds_toArray]
    refine wpAnyH_take (i:=6) (oi:=_) (v:=?v6) rfl (by kernel_rfl) (by kernel_rfl) (by kernel_rfl) (fun _ _ _ h=>h) (Or.inl ⟨by rfl,?h6⟩) (by assumption) ?_
    case h6=>(intro w hSw;(try dsimp only at hSw);go_simp;(try with_reducible rfl))
    simp only[Act.put,List.setIfInBounds_toArray]
    refine wpAnyH_take (i:=7) (oi:=_) (v:=?v7) rfl (by kernel_rfl) (by kernel_rfl) (by kernel_rfl) (fun _ _ _ h=>h) (Or.inl ⟨by rfl,?h7⟩) (by assumption) ?_
    case h7=>(intro w hSw;(try dsimp only at hSw);go_simp;(try with_reducible rfl))
    simp only[Act.put,List.setIfInBounds_toArray]
    refine wpAnyH_take (i:=8) (oi:=_) (v:=?v8) rfl (by kernel_rfl) (by kernel_rfl) (by kernel_rfl) (fun _ _ _ h=>h) (Or.inl ⟨by rfl,?h8⟩) (by assumption) ?_
    case h8=>(intro w hSw;(try dsimp only at hSw);go_simp;(try with_reducible rfl))
    simp only[Act.put,List.setIfInBounds_toArray]
    refine wpAnyH_take (i:=9) (oi:=_) (v:=?v9) rfl (by kernel_rfl) (by kernel_rfl) (by kernel_rfl) (fun _ _ _ h=>h) (Or.inl ⟨by rfl,?h9⟩) (by assumption) ?_
    case h9=>(intro w hSw;(try dsimp only at hSw);go_simp;(try with_reducible rfl))
    simp only[Act.put,List.setIfInBounds_toArray]
    refine wpAnyH_take (i:=10) (oi:=_) (v:=?v10) rfl (by kernel_rfl) (by kernel_rfl) (by kernel_rfl) (fun _ _ _ h=>h) (Or.inl ⟨by rfl,?h10⟩) (by assumption) ?_
    case h10=>(intro w hSw;(try dsimp only at hSw);go_simp;(try with_reducible rfl))
    simp only[Act.put,List.setIfInBounds_toArray]
    refine wpAnyH_ready (rs:=[11]) (by kernel_rfl) (by simp) ?_
    refine AllReadyH.cons (o:=_) rfl (fun K hK=>?_) AllReadyH.nil
    go_simp
    refine hK.out _ _ ?_ (fun hHeld11=>?_)
    ·go_keep
    clear hK K
    simp only[List.setIfInBounds_toArray]
    refine wpAnyH_ready (rs:=[12]) (by kernel_rfl) (by simp) ?_
    refine AllReadyH.cons (o:=_) rfl (fun K hK=>?_) AllReadyH.nil
    (refine V0 (v:=vs d) rfl (.tmp 33) (.tmp 39) _ rfl eiRun (by decide) (by decide) (fun _ _ h=>h.one) rfl (HOWN.out _ ((((Below.refl wr.heap.size wr).alloc (Nat.le_refl _) _).drew).alloc (by simp) _)) rfl (SlP.one (x:=(fr,hi)) HRE.out rfl _ (by simp)) HL.out (by simp;omega) ?_;intro v1 w4 hown4 hb4 hg4 hv4;have hsh4:=OwnP.shape hown4;simp only[List.length_append,List.length_singleton]at hsh4;obtain⟨A1,c1,hv1⟩:=hsh4;subst hv1;have hg4h:=hid (HGB.out _ _ ((((Below.refl wr.heap.size wr).alloc (Nat.le_refl _) _).drew).alloc (by simp) _) hg4);have hc4:w4.cell? ⟨w.heap.size+1,d,none⟩=some (vs d):=(Qa ((hg4h.out _ (by omega)).trans HR4.out.arr)).trans (ZC vs hd4);have hf4:w4.frozen? ⟨w.heap.size+1,d,none⟩=false:=Qb ((hg4h.out _ (by omega)).trans HR4.out.arr);have hx3:=(hg4.block wr.heap.size (by simp;omega) (fun e=>by have:=HLT.out _ e.symm;omega)).trans ((Qg (by simp)).trans (Qd (o:=.cells #[.int .i64 (d:Int),.int .i64 fr,.int .i64 hi] 45) rfl));have hx4:Hid (w4.cell? ⟨wr.heap.size,0,none⟩=some (.int .i64 (d:Int))/\w4.cell? ⟨wr.heap.size,1,none⟩=some (.int .i64 fr)/\w4.cell? ⟨wr.heap.size,2,none⟩=some (.int .i64 hi)/\w4.cell? ⟨w.heap.size+1,d,none⟩=some (vs d)):=⟨(Qa (i:=0) hx3).trans rfl,(Qa (i:=1) hx3).trans rfl,(Qa (i:=2) hx3).trans rfl,hc4⟩;clear hx3)
    refine hK.out _ _ ?_ (fun hHeld12=>?_)
    ·exact hx4.out
    clear hK K
    simp only[Act.put,List.setIfInBounds_toArray]
    refine wpAnyH_take (i:=13) (oi:=_) (v:=?v13) rfl (by kernel_rfl) (by kernel_rfl) (by kernel_rfl) (fun _ _ _ h=>h) (Or.inl ⟨by rfl,?h13⟩) (by assumption) ?_
    case h13=>(intro w hSw;(try dsimp only at hSw);go_simp;(try with_reducible rfl))
    simp only[Act.put,List.setIfInBounds_toArray]
    refine wpAnyH_done (by kernel_rfl) ?_ _
    change wpList _ _ _ _ _ _
    go_wp2_with fail
    go_roundw
    case rel=>
     refine⟨k+1,(d:Int),by omega,by go_num,rfl,by omega,by omega,HDR.out,fun i=>if i=d then .slice A1 ((partL (c.take k) d).length+1) c1 else vs i,?_,?_,?_⟩
     ·rw[HPD.out]
      exact Rows4.put (w:=((wr.alloc (.cells #[.int .i64 (d:Int),.int .i64 fr,.int .i64 hi] 45)).alloc (.cells #[.int .i64 fr,.int .i64 hi] 167)).drew) (((HR4.out.grow ((Below.refl _ wr).alloc (Nat.le_refl _) _)).grow ((Below.refl _ _).alloc (Nat.le_refl _) _)).same rfl) hd4 hown4 hg4 hv4
     ·exact (Below.heap_setCell _ _ _ _ (by simp)).trans ((hg4h.out _ (by omega)).trans HG.out)
     ·exact (((((hb.alloc hsz _).drew).alloc (by simp;omega) _).trans (hb4.mono (by omega))).setCell (by simp) _)
    case measure=>simp[intOf];omega
  ·obtain rfl:k=c.length:=by omega
   rw[List.take_of_length_le (Nat.le_refl _)]at hr4
   have c0:wr.cell? ⟨w.heap.size+1,0,none⟩=some (vs 0):=hr4.at (by omega)
   have c1:wr.cell? ⟨w.heap.size+1,1,none⟩=some (vs 1):=hr4.at (by omega)
   have c2:wr.cell? ⟨w.heap.size+1,2,none⟩=some (vs 2):=hr4.at (by omega)
   have c3:wr.cell? ⟨w.heap.size+1,3,none⟩=some (vs 3):=hr4.at (by omega)
   have HR:=hid hr4
   have HG:=hid hg2
   have hD:dcsOk 0 c=true:=by rw[←hrel.out];simp[dcsOk]
   have HD:=hid hD
   clear hr4 hg2 hrel hD b3
   go_wp2_with fail
   obtain⟨wo,rfl⟩:∃ wo:World,wo=wr:=⟨_,rfl⟩
   go_loopw [44] (fun i wr=>∃ k:Nat,k<=4/\i=.int .i64 k/\Hid ((List.range k).all (fun (dc:Nat)=>runsR none (partL c dc))=true)/\Below wo.heap.size wo wr) (fun i _=>4-(intOf i).toNat)
   case atStart=>exact⟨0,by omega,rfl,rfl,Below.refl _ _⟩
   case round=>
    obtain⟨k,hk,rfl,hrel,hbi⟩:=hrel
    have hsi:=hbi.size
    by_cases hk4:k<4
    ·have hidx:∀ w,(Instr.index 162 (.agg #[vs 0,vs 1,vs 2,vs 3]) (.int .i64 (k:Int))).run Tryz.prog w=.ok (vs k) w:=fun w=>by
      match k,hk4 with
      |0,_=>rfl
      |1,_=>rfl
      |2,_=>rfl
      |3,_=>rfl
     have HSL:Hid (SlP wr wr.heap.size 2 RuE (vs k) (partL c k)):=(HR.out.sl hk4 (by have:=QK c k;unfold Big;omega)).imp hbi hsi fun _ _ _ h=>h
     have hz4:w.heap.size<wo.heap.size:=by omega
     cases hq:runsR none (partL c k)
     ·have HF:Hid (Qm c=false):=by
       unfold Hid Qm
       have:(List.range 4).all (fun (dc:Nat)=>runsR none (partL c dc))=false:=by
        rw[List.all_eq_false];exact⟨k,by simpa using hk4,by rw[hq];simp⟩
       rw[this];simp
      have HQ:=hid hq
      clear hq c0 c1 c2 c3
      go_wp2_with (go_at_call 168;refine (Yh (partL c k) (vs k) wr HSL.out).mono ?_;rw[HQ.out];rintro e w1 ⟨rfl,hb1⟩;have hz:=hid ((hb1.block w.heap.size (by omega)).trans ((hbi.block w.heap.size hz4).trans HG.out));have hBz:=(hb.trans (hbi.mono hsz)).trans (hb1.mono (by omega));have z0:=Qb (i:=0) hz.out;have z1:=Qb (i:=1) hz.out;have z2:=Qb (i:=2) hz.out;have z3:=Qb (i:=3) hz.out;have c0:w1.cell? ⟨w.heap.size,0,none⟩=some (.slice none 0 0):=Qa (i:=0) hz.out;have c1:w1.cell? ⟨w.heap.size,1,none⟩=some (.slice none 0 0):=Qa (i:=1) hz.out;have c2:w1.cell? ⟨w.heap.size,2,none⟩=some (.slice none 0 0):=Qa (i:=2) hz.out;have c3:w1.cell? ⟨w.heap.size,3,none⟩=some (.slice none 0 0):=Qa (i:=3) hz.out)
      go_wp2_with fail
      have hW0:=Qe (i:=3) (Qe (i:=2) (Qe (i:=1) (Qe (i:=0) hz.out (.slice none 0 0)) (.slice none 0 0)) (.slice none 0 0)) (.slice none 0 0)
      have hBW:Below w.heap.size w ((((((w1).setCell ⟨w.heap.size,0,none⟩ (.slice none 0 0)).setCell ⟨w.heap.size,1,none⟩ (.slice none 0 0)).setCell ⟨w.heap.size,2,none⟩ (.slice none 0 0)).setCell ⟨w.heap.size,3,none⟩ (.slice none 0 0))):=(((hBz.setCell (Nat.le_refl _) _).setCell (Nat.le_refl _) _).setCell (Nat.le_refl _) _).setCell (Nat.le_refl _) _
      clear c0 c1 c2 c3 z0 z1 z2 z3
      generalize (((((w1).setCell ⟨w.heap.size,0,none⟩ (.slice none 0 0)).setCell ⟨w.heap.size,1,none⟩ (.slice none 0 0)).setCell ⟨w.heap.size,2,none⟩ (.slice none 0 0)).setCell ⟨w.heap.size,3,none⟩ (.slice none 0 0))=W at *
      have hWs:w.heap.size<W.heap.size:=(Array.getElem?_eq_some_iff.1 hW0).1
      have r0:(W).cell? ⟨w.heap.size,0,none⟩=some (.slice none 0 0):=(Qa (i:=0) ((id) hW0)).trans (by simp)
      have r1:(W).cell? ⟨w.heap.size,1,none⟩=some (.slice none 0 0):=(Qa (i:=1) ((id) hW0)).trans (by simp)
      have r2:(W).cell? ⟨w.heap.size,2,none⟩=some (.slice none 0 0):=(Qa (i:=2) ((id) hW0)).trans (by simp)
      have r3:(W).cell? ⟨w.heap.size,3,none⟩=some (.slice none 0 0):=(Qa (i:=3) ((id) hW0)).trans (by simp)
      have hBX:Below w.heap.size w (W):=(id) hBW
      refine bodyPost_ret (v:=.tuple #[.agg #[.slice none 0 0,.slice none 0 0,.slice none 0 0,.slice none 0 0],.bool false]) (by simp[results,Tryz.results133,go_sem,r0,r1,r2,r3]) rfl ⟨fun _=>.slice none 0 0,by rw[HF.out],fun i _=>by rw[HF.out];exact⟨none,0,rfl,Nat.le_refl _,by simp,fun h=>absurd rfl h⟩,hBX⟩
     ·have HN:Hid ((List.range (k+1)).all (fun (dc:Nat)=>runsR none (partL c dc))=true):=by
       unfold Hid;rw[List.range_succ,List.all_append,hrel.out];simp[hq]
      have HQ:=hid hq
      clear hq
      go_wp2_with (go_at_call 168;refine (Yh (partL c k) (vs k) wr HSL.out).mono ?_;rw[HQ.out];rintro e w1 ⟨rfl,hb1⟩)
      go_roundw
      case rel=>exact⟨k+1,by omega,by go_num,HN.out,hbi.trans (hb1.mono hsi)⟩
      case measure=>simp[intOf];omega
    ·obtain rfl:k=4:=by omega
     have HT:Hid (Qm c=true):=by unfold Hid Qm;rw[HD.out,hrel.out];rfl
     have HR2:=hid (HR.out.grow hbi)
     have hz:=hid ((hbi.block w.heap.size (by omega)).trans HG.out)
     have hBz:=hb.trans (hbi.mono hsz)
     have hsz6:w.heap.size<wr.heap.size:=by omega
     have hsz7:w.heap.size+1<wr.heap.size:=by omega
     clear c0 c1 c2 c3
     have z0:=Qb (i:=0) hz.out
     have z1:=Qb (i:=1) hz.out
     have z2:=Qb (i:=2) hz.out
     have z3:=Qb (i:=3) hz.out
     have c0:wr.cell? ⟨w.heap.size,0,none⟩=some (.slice none 0 0):=Qa (i:=0) hz.out
     have c1:wr.cell? ⟨w.heap.size,1,none⟩=some (.slice none 0 0):=Qa (i:=1) hz.out
     have c2:wr.cell? ⟨w.heap.size,2,none⟩=some (.slice none 0 0):=Qa (i:=2) hz.out
     have c3:wr.cell? ⟨w.heap.size,3,none⟩=some (.slice none 0 0):=Qa (i:=3) hz.out
     have d0:wr.cell? ⟨w.heap.size+1,0,none⟩=some (vs 0):=HR2.out.at (by omega)
     have d1:wr.cell? ⟨w.heap.size+1,1,none⟩=some (vs 1):=HR2.out.at (by omega)
     have d2:wr.cell? ⟨w.heap.size+1,2,none⟩=some (vs 2):=HR2.out.at (by omega)
     have d3:wr.cell? ⟨w.heap.size+1,3,none⟩=some (vs 3):=HR2.out.at (by omega)
     obtain⟨A0,m0,g0⟩:=(HR2.out.own 0 (by omega)).shape
     obtain⟨A1,m1,g1⟩:=(HR2.out.own 1 (by omega)).shape
     obtain⟨A2,m2,g2⟩:=(HR2.out.own 2 (by omega)).shape
     obtain⟨A3,m3,g3⟩:=(HR2.out.own 3 (by omega)).shape
     have G0:=hid g0
     have G1:=hid g1
     have G2:=hid g2
     have G3:=hid g3
     simp only[g0,g1,g2,g3]at d0 d1 d2 d3 ⊢
     clear g0 g1 g2 g3
     go_wp2_with fail
     have hW0:=Qe (i:=3) (Qe (i:=2) (Qe (i:=1) (Qe (i:=0) hz.out (vs 0)) (vs 1)) (vs 2)) (vs 3)
     have hBW:Below w.heap.size w ((((wr.setCell ⟨w.heap.size,0,none⟩ (vs 0)).setCell ⟨w.heap.size,1,none⟩ (vs 1)).setCell ⟨w.heap.size,2,none⟩ (vs 2)).setCell ⟨w.heap.size,3,none⟩ (vs 3)):=(((hBz.setCell (Nat.le_refl _) _).setCell (Nat.le_refl _) _).setCell (Nat.le_refl _) _).setCell (Nat.le_refl _) _
     have hOW:∀ i,i<4->OwnP ((((wr.setCell ⟨w.heap.size,0,none⟩ (vs 0)).setCell ⟨w.heap.size,1,none⟩ (vs 1)).setCell ⟨w.heap.size,2,none⟩ (vs 2)).setCell ⟨w.heap.size,3,none⟩ (vs 3)) (w.heap.size+2) 167 2 RuE (vs i) (partL c i):=fun i hi=>
      ((((HR2.out.own i hi).setOther (a:=⟨w.heap.size,0,none⟩) (by simp) _).setOther (a:=⟨w.heap.size,1,none⟩) (by simp) _).setOther (a:=⟨w.heap.size,2,none⟩) (by simp) _).setOther (a:=⟨w.heap.size,3,none⟩) (by simp) _
     rw[G0.out,G1.out,G2.out,G3.out]at hW0 hBW
     simp only[G0.out,G1.out,G2.out,G3.out]at hOW
     clear c0 c1 c2 c3 z0 z1 z2 z3 d0 d1 d2 d3
     generalize ((((wr.setCell ⟨w.heap.size,0,none⟩ (.slice A0 (partL c ((0:Nat):Int)).length m0)).setCell ⟨w.heap.size,1,none⟩ (.slice A1 (partL c ((1:Nat):Int)).length m1)).setCell ⟨w.heap.size,2,none⟩ (.slice A2 (partL c ((2:Nat):Int)).length m2)).setCell ⟨w.heap.size,3,none⟩ (.slice A3 (partL c ((3:Nat):Int)).length m3))=W at *
     have r0:W.cell? ⟨w.heap.size,0,none⟩=some _:=(Qa (i:=0) hW0).trans rfl
     have r1:W.cell? ⟨w.heap.size,1,none⟩=some _:=(Qa (i:=1) hW0).trans rfl
     have r2:W.cell? ⟨w.heap.size,2,none⟩=some _:=(Qa (i:=2) hW0).trans rfl
     have r3:W.cell? ⟨w.heap.size,3,none⟩=some _:=(Qa (i:=3) hW0).trans rfl
     refine bodyPost_ret (v:=.tuple #[.agg #[vs 0,vs 1,vs 2,vs 3],.bool true]) (by simp[results,Tryz.results133,go_sem,r0,r1,r2,r3,G0.out,G1.out,G2.out,G3.out]) rfl ⟨vs,by rw[HT.out],fun i hi=>by rw[HT.out];exact ((hOW i hi).sla (by have:=QK c i;unfold Big;simp;omega)).up (fun _ _=>rfl) (fun b hb=>⟨by have:=hb.1;omega,hb.2.1⟩) (fun _ _ _ h=>h),hBW⟩
def cmpS (a b:ByteArray):Int:=if ltS a b then -1 else if ltS b a then 1 else 0
theorem qQg (a b:ByteArray)(w:World):Calls Tryz.prog 181 #[.string a,.string b] w fun e w'=>e=.returned (.int .i64 (cmpS a b))/\w=w':=by
 have hgt:=qKv b a
 have hE:Hid (cmpS a b=if Op.bytesLess a.toList b.toList then -1 else if ltS b a then 1 else 0):=rfl
 have hN1:(!(a.toList==a.toList))=false:=by simp
 have hN2:(!(b.toList==b.toList))=false:=by simp
 go_enter Tryz.func181,Tryz.ntmps181
 rcases g1:Op.bytesLess a.toList b.toList
 ·rcases g2:(a.toList==b.toList)
  ·have g3:¬a.toList=b.toList:=by simpa using g2
   have HR:Hid (cmpS a b=1):=by unfold Hid;rw[hE.out,g1,hgt,g1,g2];rfl
   clear hgt hE
   go_wp2
   go_ret
   exact⟨Qn HR.out.symm,rfl⟩
  ·have g3:a.toList=b.toList:=by simpa using g2
   have HR:Hid (cmpS a b=0):=by unfold Hid;rw[hE.out,g1,hgt,g1,g2];rfl
   obtain rfl:a=b:=(QM a b).1 g3
   clear hgt hE g3
   go_wp2
   go_ret
   exact⟨Qn HR.out.symm,rfl⟩
 ·have HR:Hid (cmpS a b=-1):=by unfold Hid;rw[hE.out,g1];rfl
  clear hgt hE
  go_wp2
  go_ret
  exact⟨Qn HR.out.symm,rfl⟩
def grtE (a b:En):En:=if orI (cmpI a.v b.v) (cmpS a.s b.s)<0 then b else a
theorem qZs (a b:En)(w:World):Calls Tryz.prog 177 #[.agg #[.int .i64 a.dc,.int .i64 a.n,.string a.s,.int .i64 a.v],.agg #[.int .i64 b.dc,.int .i64 b.n,.string b.s,.int .i64 b.v]] w fun e w'=>e=.returned (.agg #[.int .i64 (grtE a b).dc,.int .i64 (grtE a b).n,.string (grtE a b).s,.int .i64 (grtE a b).v])/\Below w.heap.size w w':=by
 go_enter Tryz.func177,Tryz.ntmps177
 go_upto_region 1 with (fail)
 go_region_held3 (fun w'=>w'.cell? ⟨w.heap.size,1,none⟩=some (.int .i64 a.n)/\w'.cell? ⟨w.heap.size,2,none⟩=some (.string a.s)/\w'.cell? ⟨w.heap.size,3,none⟩=some (.int .i64 a.v)/\w'.cell? ⟨w.heap.size+1,2,none⟩=some (.string b.s)/\w'.cell? ⟨w.heap.size+1,3,none⟩=some (.int .i64 b.v)) (go_keep)
  (first|(go_at_call 185;refine (Xi _ _ _).mono ?_;rintro e w' ⟨rfl,rfl⟩)|(go_at_call 181;refine (qQg _ _ _).mono ?_;rintro e w' ⟨rfl,rfl⟩)|(go_at_call 205;refine (qKt (cmpI a.v b.v) (cmpS a.s b.s) _ _ (by rw[World.cell?_drew,World.cell?_alloc_at _ _ _ _ (by simp)];rfl) (by rw[World.cell?_drew,World.cell?_alloc_at _ _ _ _ (by simp)];rfl)).mono ?_;rintro e w' ⟨rfl,rfl⟩))
 have hB:Below w.heap.size w (((((w.alloc (.cells #[.int .i64 a.dc,.int .i64 a.n,.string a.s,.int .i64 a.v] 80)).alloc (.cells #[.int .i64 b.dc,.int .i64 b.n,.string b.s,.int .i64 b.v] 80)).alloc (.cells #[.int .i64 0,.int .i64 0,.string ⟨#[]⟩,.int .i64 0] 80)).alloc (.cells #[.int .i64 (cmpI a.v b.v),.int .i64 (cmpS a.s b.s)] 3)).drew):=by go_grown
 have g0:(((((w.alloc (.cells #[.int .i64 a.dc,.int .i64 a.n,.string a.s,.int .i64 a.v] 80)).alloc (.cells #[.int .i64 b.dc,.int .i64 b.n,.string b.s,.int .i64 b.v] 80)).alloc (.cells #[.int .i64 0,.int .i64 0,.string ⟨#[]⟩,.int .i64 0] 80)).alloc (.cells #[.int .i64 (cmpI a.v b.v),.int .i64 (cmpS a.s b.s)] 3)).drew).heap[w.heap.size]?=some (.cells #[.int .i64 a.dc,.int .i64 a.n,.string a.s,.int .i64 a.v] 80 (0,0)):=(Qg (by simp<;>omega)).trans ((Qg (by simp<;>omega)).trans ((Qg (by simp)).trans (Qd rfl)))
 have g1:(((((w.alloc (.cells #[.int .i64 a.dc,.int .i64 a.n,.string a.s,.int .i64 a.v] 80)).alloc (.cells #[.int .i64 b.dc,.int .i64 b.n,.string b.s,.int .i64 b.v] 80)).alloc (.cells #[.int .i64 0,.int .i64 0,.string ⟨#[]⟩,.int .i64 0] 80)).alloc (.cells #[.int .i64 (cmpI a.v b.v),.int .i64 (cmpS a.s b.s)] 3)).drew).heap[w.heap.size+1]?=some (.cells #[.int .i64 b.dc,.int .i64 b.n,.string b.s,.int .i64 b.v] 80 (0,0)):=(Qg (by simp<;>omega)).trans ((Qg (by simp)).trans (Qd (by simp)))
 have g2:(((((w.alloc (.cells #[.int .i64 a.dc,.int .i64 a.n,.string a.s,.int .i64 a.v] 80)).alloc (.cells #[.int .i64 b.dc,.int .i64 b.n,.string b.s,.int .i64 b.v] 80)).alloc (.cells #[.int .i64 0,.int .i64 0,.string ⟨#[]⟩,.int .i64 0] 80)).alloc (.cells #[.int .i64 (cmpI a.v b.v),.int .i64 (cmpS a.s b.s)] 3)).drew).heap[w.heap.size+2]?=some (.cells #[.int .i64 0,.int .i64 0,.string ⟨#[]⟩,.int .i64 0] 80 (0,0)):=(Qg (by simp)).trans (Qd (by simp))
 have a0:=Qa (i:=0) g0
 have a1:=Qa (i:=1) g0
 have a2:=Qa (i:=2) g0
 have a3:=Qa (i:=3) g0
 have b0:=Qa (i:=0) g1
 have b1:=Qa (i:=1) g1
 have b2:=Qa (i:=2) g1
 have b3:=Qa (i:=3) g1
 obtain⟨k0,k1,k2,k3,z0,z1,z2,z3⟩:=bz4 g2
 have HG:=hid g2
 clear g0 g1 g2
 simp only[List.getElem?_toArray,List.getElem?_cons_zero,List.getElem?_cons_succ]at a0 a1 a2 a3 b0 b1 b2 b3 k0 k1 k2 k3
 generalize ((((w.alloc (.cells #[.int .i64 a.dc,.int .i64 a.n,.string a.s,.int .i64 a.v] 80)).alloc (.cells #[.int .i64 b.dc,.int .i64 b.n,.string b.s,.int .i64 b.v] 80)).alloc (.cells #[.int .i64 0,.int .i64 0,.string ⟨#[]⟩,.int .i64 0] 80)).alloc (.cells #[.int .i64 (cmpI a.v b.v),.int .i64 (cmpS a.s b.s)] 3)).drew=W at *
 have HGR:Hid (grtE a b=if orI (cmpI a.v b.v) (cmpS a.s b.s)<0 then b else a):=rfl
 rcases hc:decide (orI (cmpI a.v b.v) (cmpS a.s b.s)<0)
 ·have HE:Hid (grtE a b=a):=by unfold Hid;rw[HGR.out,if_neg (of_decide_eq_false hc)]
  go_wp2_with fail
  have hW4:=Qe (i:=3) (Qe (i:=2) (Qe (i:=1) (Qe (i:=0) HG.out (.int .i64 a.dc)) (.int .i64 a.n)) (.string a.s)) (.int .i64 a.v)
  have r0:=(Qa (i:=0) hW4).trans (show _=some (.int .i64 a.dc) by simp)
  have r1:=(Qa (i:=1) hW4).trans (show _=some (.int .i64 a.n) by simp)
  have r2:=(Qa (i:=2) hW4).trans (show _=some (.string a.s) by simp)
  have r3:=(Qa (i:=3) hW4).trans (show _=some (.int .i64 a.v) by simp)
  refine bodyPost_ret (v:=.agg #[.int .i64 a.dc,.int .i64 a.n,.string a.s,.int .i64 a.v]) (by simp[results,Tryz.results177,go_sem,r0,r1,r2,r3]) rfl ⟨by rw[HE.out],(((hB.setCell (by simp<;>omega) _).setCell (by simp<;>omega) _).setCell (by simp<;>omega) _).setCell (by simp<;>omega) _⟩
 ·have HE:Hid (grtE a b=b):=by unfold Hid;rw[HGR.out,if_pos (of_decide_eq_true hc)]
  go_wp2_with fail
  have hW4:=Qe (i:=3) (Qe (i:=2) (Qe (i:=1) (Qe (i:=0) HG.out (.int .i64 b.dc)) (.int .i64 b.n)) (.string b.s)) (.int .i64 b.v)
  have r0:=(Qa (i:=0) hW4).trans (show _=some (.int .i64 b.dc) by simp)
  have r1:=(Qa (i:=1) hW4).trans (show _=some (.int .i64 b.n) by simp)
  have r2:=(Qa (i:=2) hW4).trans (show _=some (.string b.s) by simp)
  have r3:=(Qa (i:=3) hW4).trans (show _=some (.int .i64 b.v) by simp)
  refine bodyPost_ret (v:=.agg #[.int .i64 b.dc,.int .i64 b.n,.string b.s,.int .i64 b.v]) (by simp[results,Tryz.results177,go_sem,r0,r1,r2,r3]) rfl ⟨by rw[HE.out],(((hB.setCell (by simp<;>omega) _).setCell (by simp<;>omega) _).setCell (by simp<;>omega) _).setCell (by simp<;>omega) _⟩
theorem SlP.oneN {α:Type}{w:World}{o:Obj}{sz n:Nat}{E:α->List Value->Prop}{x:α}{cs:List Value}(hE:E x cs)(hl:cs.length=sz)(e:TypeId)(hn:n=w.heap.size+1) :
  SlP ((w.alloc o).alloc (.cells cs.toArray e)) ((w.alloc o).alloc (.cells cs.toArray e)).heap.size sz E (.slice (some ⟨n,0,none⟩) 1 1) [x]:=
 SlP.oneB hE hl e (hn.trans (World.size_alloc _ _).symm) (by rw[World.size_alloc,World.size_alloc];omega)
def Yl (t:Tr):List ByteArray:=if t.right 5 then t.ks.map (·.1) else []
theorem qVr (t:Tr)(w:World)(ve vk:Value)(h:t.rd w w.heap.size ve vk)(hN:t.ks.length<=900000) :
  Calls Tryz.prog 89 #[.agg #[ve,vk]] w (RetO w 9 1 (fun _=>StE) (Yl t)):=by
 have HC:Hid (∀ w',Below w.heap.size w w'->t.rd w' w'.heap.size ve vk):=fun w' hb=>Qi hb hb.size _ _ _ h
 have HK0:Hid (Yl t=if t.right 5 then t.ks.map (·.1) else []):=rfl
 obtain⟨es,ks⟩:=t
 rw[QA]at h
 obtain⟨⟨A0,n0,rfl,d1,d2,d3⟩,⟨A,m,rfl,c1,c2,c3⟩⟩:=h
 unfold Big at c2 d2
 simp only[Tr.ks]at hN HK0 ⊢
 have hb0:Below w.heap.size w (w.alloc (.cells #[.slice A0 es.length n0,.slice A ks.length m] 25)):=(Below.refl _ w).alloc (Nat.le_refl _) _
 go_enter Tryz.func89,Tryz.ntmps89
 go_wp2_with fail
 refine (QG _ _ _ _ (HC.out _ hb0)).mono ?_
 rintro e w1 ⟨rfl,hb1⟩
 have hs1:=hb1.size
 simp only[World.size_alloc]at hs1
 have hB1:Below w.heap.size w w1:=hb0.trans (hb1.mono (by simp))
 have b1:w1.cell? ⟨w.heap.size,1,none⟩=some (.slice A ks.length m):=by rw[hb1.cell (p:=⟨w.heap.size,1,none⟩) (by simp)];simp
 cases hr:(Tr.mk es ks).right 5
 ·have HK:Hid (Yl (.mk es ks)=[]):=by unfold Hid;rw[HK0.out,hr];rfl
  clear hr
  go_wp2_with fail
  go_ret
  exact⟨_,rfl,by rw[HK.out];exact OwnP.nil,hB1⟩
 have HK:Hid (Yl (.mk es ks)=ks.map (·.1)):=by unfold Hid;rw[HK0.out,hr];rfl
 clear hr d3 d2 d1
 go_wp2_with fail
 go_loopw [3,11] (fun v i wr=>∃ k:Nat,k<=ks.length/\i=.int .i64 k/\OwnP wr (w.heap.size+1) 9 1 StE v ((ks.take k).map (·.1))/\Below (w.heap.size+1) w1 wr) (fun _ i _=>ks.length-(intOf i).toNat)
 case atStart=>exact⟨0,Nat.zero_le _,rfl,OwnP.nil,Below.refl _ _⟩
 case round=>
  obtain⟨k,hk,rfl,hown,hb⟩:=hrel
  have hsz:=hb.size
  have hB0:Below w.heap.size w wr:=hB1.trans (hb.mono (by omega))
  by_cases hlt:k<ks.length
  ·obtain⟨⟨key,t⟩,hx⟩:∃ x,ks[k]?=some x:=⟨_,List.getElem?_eq_getElem hlt⟩
   obtain⟨b,off,rfl,hbB,hc⟩:=c3 (by rintro rfl;simp at hlt)
   obtain⟨cs,⟨ve',vk',rfl,hkb,hrd⟩,_,hu⟩:=hc k _ hx
   obtain⟨A5,n5,A6,n6,rfl,rfl⟩:=Qj hrd
   have e0:wr.cell? ⟨b,off+k*3,none⟩=some (.string key):=(hB0.cell hbB).trans (hu 0 _ rfl)
   have e1:wr.cell? ⟨b,off+k*3+1,none⟩=some (.slice A5 t.es.length n5):=(hB0.cell hbB).trans (hu 1 _ rfl)
   have e2:wr.cell? ⟨b,off+k*3+2,none⟩=some (.slice A6 t.ks.length n6):=(hB0.cell hbB).trans (hu 2 _ rfl)
   have HX:Hid ((ks.take (k+1)).map (·.1)=(ks.take k).map (·.1)++[key]):=by unfold Hid;rw[List.take_add_one,hx];simp
   have HL:Hid (((ks.take k).map (·.1)).length + [key].length<=Few):=by unfold Hid Few;simp;omega
   have HKY:Hid (StE key [.string key]):=⟨rfl,hkb⟩
   clear hu hc c3 hx hrd hb0 hb1 b1
   go_wp2_with (at_builtin;go_loud ((with_reducible refine Qk rfl (.tmp 15) (.tmp 18) _ rfl eiStr (by decide) (by decide) (fun _ _ h=>StE.one h) rfl ((hown.alloc _).alloc _) rfl (SlP.oneN (x:=key) HKY.out rfl _ rfl) HL.out (by simp only[World.size_alloc];omega) ?_);intro v1 w2 hown1 hb2 _;have hb3:=(((Below.refl (w.heap.size+1) wr).alloc (by omega) _).alloc (by simp only[World.size_alloc];omega) _).trans hb2))
   go_roundw
   case rel=>exact⟨k+1,by omega,by go_num,by rw[HX.out];exact hown1,hb.trans hb3⟩
   case measure=>simp[intOf];omega
  ·obtain rfl:k=ks.length:=by omega
   rw[List.take_of_length_le (Nat.le_refl _)]at hown
   go_wp2_with fail
   go_ret
   exact⟨_,rfl,by rw[HK.out];exact hown.mono (by omega),hB0⟩
end Go.Proofs.YtbcoelggdikipaaGreat
