/- What the laws need. No condition but those that each lemma states. -/
import Derived.Deep.RegionHeld3
import Derived.Laws.StructEq
import Derived.Test.YtbcoelggdikipaaGreatProg
import Derived.Test.YtbcoelggdikipaaGreatUw1
set_option maxRecDepth 100000
set_option maxHeartbeats 8000000
set_option linter.unusedSimpArgs false
namespace Go.Proofs.YtbcoelggdikipaaGreat
open Go.RowKit
mutual
def Tr.dots:Tr->List Dt
 |.mk es ks=>es.map En.dot++Tr.dotsL ks
def Tr.dotsL:List (ByteArray×Tr)->List Dt
 |[]=>[]
 |(_,t) :: ks=>t.dots++Tr.dotsL ks
end
theorem qJj {ks:List Kd}{k:Nat}{x:Kd}(h:ks[k]?=some x):Tr.dotsL (ks.take (k+1))=Tr.dotsL (ks.take k)++x.2.dots:=by
 induction ks generalizing k with
 |nil=>simp at h
 |cons y ks ih=>
  obtain⟨yk,yt⟩:=y
  cases k with
  |zero=>simp at h;subst h;simp[Tr.dotsL]
  |succ k=>simp only[List.take_succ_cons];rw[Tr.dotsL,Tr.dotsL,ih (by simpa using h),List.append_assoc]
theorem qK8 {ks:List Kd}(k:Nat):(Tr.dotsL (ks.take k)).length<=(Tr.dotsL ks).length:=by
 induction ks generalizing k with
 |nil=>simp
 |cons y ks ih=>
  obtain⟨yk,yt⟩:=y
  cases k with
  |zero=>simp[Tr.dotsL]
  |succ k=>simp only[List.take_succ_cons];rw[Tr.dotsL,Tr.dotsL];have:=ih k;simp;omega
theorem zQa (t:Tr):∀ (w:World) (ve vk:Value),t.rd w w.heap.size ve vk->t.dots.length<=1000000 ->
  Calls Tryz.prog 114 #[.agg #[ve,vk]] w (RetO w 78 2 (fun _=>DtE) t.dots):=by
 induction t using Tr.ind with
 |h es ks ih=>
 intro w ve vk h hN
 rw[QA]at h
 obtain⟨⟨A1,n,rfl,b1,b2,b3⟩,⟨A2,m,rfl,c1,c2,c3⟩⟩:=h
 unfold Big at b2 c2
 rw[Tr.dots,List.length_append,List.length_map]at hN
 go_enter Tryz.func114,Tryz.ntmps114
 go_wp2_with fail
 go_loopw [3,11] (fun v i wr=>∃ k:Nat,k<=es.length/\i=.int .i64 k/\OwnP wr (w.heap.size+1) 78 2 DtE v ((es.take k).map En.dot) /\
   Below (w.heap.size+1) (w.alloc (.cells #[.slice A1 es.length n,.slice A2 ks.length m] 25)) wr) (fun _ i _=>es.length-(intOf i).toNat)
 case atStart=>exact⟨0,Nat.zero_le _,rfl,OwnP.nil,Below.refl _ _⟩
 case round=>
  obtain⟨k,hk,rfl,hown,hb⟩:=hrel
  have hsz:=hb.size
  simp only[World.size_alloc]at hsz
  have hl1:((es.take k).map En.dot).length=k:=by simp;omega
  by_cases hlt:k<es.length
  ·obtain⟨x,hx⟩:∃ x,es[k]?=some x:=⟨_,List.getElem?_eq_getElem hlt⟩
   obtain⟨b,off,rfl,hbB,hc⟩:=b3 (by rintro rfl;simp at hlt)
   obtain⟨cs,⟨rfl,hok⟩,_,hu⟩:=hc k _ hx
   have hbo:∀ o,wr.cell? ⟨b,o,none⟩=w.cell? ⟨b,o,none⟩:=fun o=>(hb.cell (p:=⟨b,o,none⟩) (by simp;omega)).trans (World.cell?_alloc_lt _ _ _ hbB)
   have e0:wr.cell? ⟨b,off+k*4,none⟩=some (.int .i64 x.dc):=(hbo _).trans (hu 0 _ rfl)
   have e1:wr.cell? ⟨b,off+k*4+1,none⟩=some (.int .i64 x.n):=(hbo _).trans (hu 1 _ rfl)
   have e2:wr.cell? ⟨b,off+k*4+2,none⟩=some (.string x.s):=(hbo _).trans (hu 2 _ rfl)
   have e3:wr.cell? ⟨b,off+k*4+3,none⟩=some (.int .i64 x.v):=(hbo _).trans (hu 3 _ rfl)
   have hd:x.dot.Ok:=⟨hok.dc,hok.n⟩
   have HX:Hid ((es.take (k+1)).map En.dot=(es.take k).map En.dot++[x.dot]):=by
    unfold Hid;rw[List.take_add_one,hx];simp
   have HL:Hid (((es.take k).map En.dot).length + [x.dot].length<=Few):=by unfold Hid Few;rw[hl1];simp;omega
   clear hu hbo hx hc b3 hok hl1
   have HB:Hid (w.heap.size+1<=wr.heap.size+1+1):=by unfold Hid;omega
   go_wp2_with (at_builtin;go_loud (refine Qk rfl (.tmp 15) (.tmp 18) _ rfl eiDot (by decide) (by decide) (fun _ _ h=>h.one) rfl ((hown.alloc _).alloc _) rfl (SlP.one (x:=x.dot) (cs:=[.int .i64 x.dc,.int .i64 x.n]) ⟨rfl,hd⟩ rfl _ (World.size_alloc _ _).symm) HL.out (by rw[World.size_alloc,World.size_alloc];exact HB.out) ?_);intro v1 w1 hown1 hb1 _)
   go_roundw
   case rel=>
    refine⟨k+1,by omega,by go_num,by rw[HX.out];exact hown1,((hb.alloc (by omega) _).alloc (by simp;omega) _).trans hb1⟩
   case measure=>simp[intOf];omega
  ·obtain rfl:k=es.length:=by omega
   clear hl1
   rw[List.take_of_length_le (Nat.le_refl _)]at hown
   have hw1:wr.cell? ⟨w.heap.size,1,none⟩=some (.slice A2 ks.length m):=by rw[hb.cell (p:=⟨w.heap.size,1,none⟩) (by simp)];simp
   go_wp2_with fail
   obtain⟨wo,rfl⟩:∃ wo:World,wo=wr:=⟨_,rfl⟩
   go_loopw [3,24] (fun v i wr=>∃ k:Nat,k<=ks.length/\i=.int .i64 k/\OwnP wr (w.heap.size+1) 78 2 DtE v (es.map En.dot++Tr.dotsL (ks.take k)) /\
     Below (w.heap.size+1) (w.alloc (.cells #[.slice A1 es.length n,.slice A2 ks.length m] 25)) wr) (fun _ i _=>ks.length-(intOf i).toNat)
   case atStart=>exact⟨0,Nat.zero_le _,rfl,by simpa[Tr.dotsL] using hown,hb⟩
   case round=>
    obtain⟨k,hk,rfl,hown,hb⟩:=hrel
    clear hw1
    have hsz:=hb.size
    simp only[World.size_alloc]at hsz
    by_cases hlt:k<ks.length
    ·obtain⟨⟨key,t⟩,hx⟩:∃ x,ks[k]?=some x:=⟨_,List.getElem?_eq_getElem hlt⟩
     obtain⟨b,off,rfl,hbB,hc⟩:=c3 (by rintro rfl;simp at hlt)
     obtain⟨cs,⟨ve',vk',rfl,hkb,hrd⟩,_,hu⟩:=hc k _ hx
     obtain⟨A3,n3,A4,n4,rfl,rfl⟩:=Qj hrd
     have hbo:∀ o,wr.cell? ⟨b,o,none⟩=w.cell? ⟨b,o,none⟩:=fun o=>(hb.cell (p:=⟨b,o,none⟩) (by simp;omega)).trans (World.cell?_alloc_lt _ _ _ hbB)
     have e0:wr.cell? ⟨b,off+k*3,none⟩=some (.string key):=(hbo _).trans (hu 0 _ rfl)
     have e1:wr.cell? ⟨b,off+k*3+1,none⟩=some (.slice A3 t.es.length n3):=(hbo _).trans (hu 1 _ rfl)
     have e2:wr.cell? ⟨b,off+k*3+2,none⟩=some (.slice A4 t.ks.length n4):=(hbo _).trans (hu 2 _ rfl)
     have hmem:(key,t)∈ks:=List.mem_of_getElem? hx
     have hB0:Below w.heap.size w wr:=((Below.refl _ w).alloc (Nat.le_refl _) _).trans (hb.mono (by omega))
     have HR:Hid (∀ o,t.rd (wr.alloc o) (wr.alloc o).heap.size (.slice A3 t.es.length n3) (.slice A4 t.ks.length n4)):=fun o=>Qi (hB0.alloc (by omega) _) (by simp;omega) _ _ _ hrd
     have hdl:=qJj hx
     have hln:=qK8 (ks:=ks) (k+1)
     have HX:Hid (es.map En.dot++Tr.dotsL (ks.take (k+1))=es.map En.dot++Tr.dotsL (ks.take k)++t.dots):=by unfold Hid;rw[hdl,List.append_assoc]
     have HL:Hid ((es.map En.dot++Tr.dotsL (ks.take k)).length+t.dots.length<=Few):=by
      unfold Hid Few;rw[hdl]at hln;simp at hln ⊢;omega
     have hu1:t.dots.length<=1000000:=by have:=HL.out;unfold Few at this;omega
     clear hu hbo hx hc c3 hrd hdl hln
     go_wp2_with (first
      |(go_at_call 114;refine (ih key t hmem _ _ _ (HR.out _) hu1).mono ?_;rintro e w2 ⟨v2,rfl,hv2,hb2⟩;have hs2:=hb2.size;simp only[World.size_alloc]at hs2)
      |(at_builtin;refine Qk rfl (.tmp 28) (.tmp 31) _ rfl eiDot (by decide) (by decide) (fun _ _ h=>h.one) rfl ((hown.alloc _).grow hb2) rfl (hv2.sl (by unfold Big;omega)) HL.out (by omega) ?_;intro v1 w1 hown1 hb3 _))
     go_roundw
     case rel=>
      refine⟨k+1,by omega,by go_num,by rw[HX.out];exact hown1,((hb.alloc (by omega) _).trans (hb2.mono (by simp;omega))).trans hb3⟩
     case measure=>simp[intOf];omega
    ·obtain rfl:k=ks.length:=by omega
     rw[List.take_of_length_le (Nat.le_refl _)]at hown
     go_wp2_with fail
     go_ret
     have hz:=hown.mono (Nat.le_succ w.heap.size)
     refine⟨_,rfl,by rw[Tr.dots];exact hz,((Below.refl _ w).alloc (Nat.le_refl _) _).trans (hb.mono (by omega))⟩
def okR:Option Int->Int->Bool
 |none,_=>true
 |some h,x=>decide (h+1<x)
def runsR:Option Int->List (Int×Int)->Bool
 |_,[]=>true
 |p,r :: rs=>numB r.1&&numB r.2&&decide (r.1<=r.2)&&okR p r.1&&runsR (some r.2) rs
theorem X3 (p:Option Int)(r:Int×Int)(rs:List (Int×Int)):runsR p (r :: rs)=(numB r.1&&numB r.2&&decide (r.1<=r.2)&&okR p r.1&&runsR (some r.2) rs):=by cases p<;>rfl
def prevR (l:List (Int×Int))(k:Nat):Option Int:=if k=0 then none else l[k-1]?.map (·.2)
theorem YT {l:List (Int×Int)}{k:Nat}{x:Int×Int}(h:l[k]?=some x):prevR l (k+1)=some x.2:=by simp[prevR,h]
theorem Yh (l:List (Int×Int))(v:Value)(w:World)(h:SlP w w.heap.size 2 RuE v l) :
  Calls Tryz.prog 168 #[v] w fun e w'=>e=.returned (.bool (runsR none l))/\Below w.heap.size w w':=by
 obtain⟨A,n,rfl,b1,b2,b3⟩:=h
 unfold Big at b2
 go_enter Tryz.func168,Tryz.ntmps168
 go_wp2_with fail
 go_loopw [7] (fun i wr=>∃ k:Nat,k<=l.length/\i=.int .i64 k/\Hid (runsR (prevR l k) (l.drop k)=runsR none l)/\Hid (∀ h,prevR l k=some h->1<=h/\h<=1099511627776)/\Below w.heap.size w wr) (fun i _=>l.length-(intOf i).toNat)
 case atStart=>exact⟨0,Nat.zero_le _,rfl,rfl,fun _ h=>by simp[prevR]at h,Below.refl _ _⟩
 case round=>
  obtain⟨k,hk,rfl,hrel,hpr,hb⟩:=hrel
  have hsz:=hb.size
  by_cases hlt:k<l.length
  ·obtain⟨r,hx⟩:∃ x,l[k]?=some x:=⟨_,List.getElem?_eq_getElem hlt⟩
   obtain⟨b,off,rfl,hbB,hc⟩:=b3 (by rintro rfl;simp at hlt)
   obtain⟨cs,⟨rfl,hok⟩,_,hu⟩:=hc k _ hx
   have e0:wr.cell? ⟨b,off+k*2,none⟩=some (.int .i64 r.1):=(hb.cell hbB).trans (hu 0 _ rfl)
   have e1:wr.cell? ⟨b,off+k*2+1,none⟩=some (.int .i64 r.2):=(hb.cell hbB).trans (hu 1 _ rfl)
   have HR:Hid (runsR none l=(numB r.1&&numB r.2&&decide (r.1<=r.2)&&okR (prevR l k) r.1&&runsR (prevR l (k+1)) (l.drop (k+1)))):=by
    have:=hrel.out
    rw[QJ hx,X3]at this
    rw[YT hx];exact this.symm
   have HPS:=hid (YT hx)
   have f0:=Qh (B:=wr.heap.size+1) (w:=wr.alloc (.cells #[.int .i64 r.1,.int .i64 r.2] 167)) (b:=wr.heap.size) (o:=0) (v:=.int .i64 r.1) (by simp) (by omega)
   have f1:=Qh (B:=wr.heap.size+1) (w:=wr.alloc (.cells #[.int .i64 r.1,.int .i64 r.2] 167)) (b:=wr.heap.size) (o:=1) (v:=.int .i64 r.2) (by simp) (by omega)
   have hprev:∃ q:Int,(0<k->prevR l k=some q/\(∀ p:Far (wr.heap.size+1) (wr.alloc (.cells #[.int .i64 r.1,.int .i64 r.2] 167)),p.w'.cell? ⟨b,off+(k-1)*2+1,none⟩=some (.int .i64 q))):=by
    by_cases h0:0<k
    ·obtain⟨y,hy⟩:∃ y,l[k-1]?=some y:=⟨_,List.getElem?_eq_getElem (by omega)⟩
     obtain⟨cs,⟨rfl,_⟩,_,hu⟩:=hc (k-1) _ hy
     refine⟨y.2,fun _=>⟨by rw[prevR,if_neg (by omega),hy];rfl,fun p=>Qh ?_ (by omega) p⟩⟩
     rw[World.cell?_alloc_lt _ _ _ (by exact Nat.lt_of_lt_of_le hbB hsz)];exact (hb.cell hbB).trans (hu 1 _ rfl)
    ·exact⟨0,fun h=>absurd h h0⟩
   obtain⟨q,hprev⟩:=hprev
   go_upto_region 4 with (fail)
   clear hrel hu hc b3 hx e0 e1
   rcases h1:numB r.1
   ·refine Qc (wr.heap.size+1) (by kernel_rfl) (by kernel_rfl) ?_
    repeat (go_big_quiet_step ((go_at_call 187;exact Calls.far_of (by simp) (XX (Yo _ _)))))
    refine wpQuiet_nil ?_
    intro wq hbq
    have hbw:Below w.heap.size w wq:=(hb.alloc (by omega) _).trans (hbq.mono (by omega))
    go_wp2_with fail
    go_ret
    refine⟨Qf ?_,hbw⟩
    rw[HR.out]
    rw[h1];simp
   rcases h2:numB r.2
   ·refine Qc (wr.heap.size+1) (by kernel_rfl) (by kernel_rfl) ?_
    repeat (go_big_quiet_step ((go_at_call 187;exact Calls.far_of (by simp) (XX (Yo _ _)))))
    refine wpQuiet_nil ?_
    intro wq hbq
    have hbw:Below w.heap.size w wq:=(hb.alloc (by omega) _).trans (hbq.mono (by omega))
    go_wp2_with fail
    go_ret
    refine⟨Qf ?_,hbw⟩
    rw[HR.out]
    rw[h1,h2];simp
   have HN:Hid (∀ h,prevR l (k+1)=some h->1<=h/\h<=1099511627776):=fun h hh=>by rw[HPS.out]at hh;cases hh;simpa[numB] using h2
   rcases t3:decide (r.2<r.1)
   case true=>
    have h3:Hid (decide (r.1<=r.2)=false):=by have:=of_decide_eq_true t3;unfold Hid;simp;omega
    refine Qc (wr.heap.size+1) (by kernel_rfl) (by kernel_rfl) ?_
    repeat (go_big_quiet_step ((go_at_call 187;exact Calls.far_of (by simp) (XX (Yo _ _)))))
    refine wpQuiet_nil ?_
    intro wq hbq
    have hbw:Below w.heap.size w wq:=(hb.alloc (by omega) _).trans (hbq.mono (by omega))
    go_wp2_with fail
    go_ret
    refine⟨Qf ?_,hbw⟩
    rw[HR.out]
    rw[h1,h2,h3.out];simp
   have h3:Hid (decide (r.1<=r.2)=true):=by have:=of_decide_eq_false t3;unfold Hid;simp;omega
   rcases Nat.eq_zero_or_pos k with h0|h0
   ·have t0:decide ((0:Int)<(k:Int))=false:=by simp;omega
    have t0':decide (0<k)=false:=by simp;omega
    have hpk:Hid (okR (prevR l k) r.1=true):=by rw[show prevR l k=none by (rw[h0];rfl)];rfl
    clear h0 hprev
    refine Qc (wr.heap.size+1) (by kernel_rfl) (by kernel_rfl) ?_
    repeat (go_big_quiet_step ((go_at_call 187;exact Calls.far_of (by simp) (XX (Yo _ _)))))
    refine wpQuiet_nil ?_
    intro wq hbq
    have hbw:Below w.heap.size w wq:=(hb.alloc (by omega) _).trans (hbq.mono (by omega))
    go_wp2_with fail
    go_roundw
    case rel=>
     refine⟨k+1,by omega,by go_num,?_,HN.out,hbw⟩
     show _=_
     rw[HR.out,h1,h2]
     rw[h3.out,hpk.out];simp
    case measure=>simp[intOf];omega
   ·obtain⟨hq,q0⟩:=hprev h0
    have hqb:=hpr.out q hq
    have hwq:IntKind.i64.wrap (q+1)=q+1:=IntWalk.i64_in _ (by omega)
    have hwk:IntKind.i64.wrap ((k:Int)-1)=(k:Int)-1:=IntWalk.i64_in _ (by omega)
    rcases t5:decide (r.1<=q+1)
    ·have hpk:Hid (okR (prevR l k) r.1=true):=by rw[hq];have:=of_decide_eq_false t5;unfold Hid;simp[okR];omega
     clear hprev hq hqb
     refine Qc (wr.heap.size+1) (by kernel_rfl) (by kernel_rfl) ?_
     repeat (go_big_quiet_step ((go_at_call 187;exact Calls.far_of (by simp) (XX (Yo _ _)))))
     refine wpQuiet_nil ?_
     intro wq hbq
     have hbw:Below w.heap.size w wq:=(hb.alloc (by omega) _).trans (hbq.mono (by omega))
     go_wp2_with fail
     go_roundw
     case rel=>
      refine⟨k+1,by omega,by go_num,?_,HN.out,hbw⟩
      show _=_
      rw[HR.out,h1,h2]
      rw[h3.out,hpk.out];simp
     case measure=>simp[intOf];omega
    ·have hpk:Hid (okR (prevR l k) r.1=false):=by rw[hq];have:=of_decide_eq_true t5;unfold Hid;simp[okR];omega
     clear hprev hq hqb
     refine Qc (wr.heap.size+1) (by kernel_rfl) (by kernel_rfl) ?_
     repeat (go_big_quiet_step ((go_at_call 187;exact Calls.far_of (by simp) (XX (Yo _ _)))))
     refine wpQuiet_nil ?_
     intro wq hbq
     have hbw:Below w.heap.size w wq:=(hb.alloc (by omega) _).trans (hbq.mono (by omega))
     go_wp2_with fail
     go_ret
     refine⟨Qf ?_,hbw⟩
     rw[HR.out]
     rw[h1,h2,h3.out,hpk.out];simp
  ·obtain rfl:k=l.length:=by omega
   have hr:=hrel.out
   go_wp2_with fail
   go_ret
   exact⟨Qf (by rw[←hr];simp[runsR]),hb⟩
theorem QG (t:Tr)(w:World)(ve vk:Value)(h:t.rd w w.heap.size ve vk) :
  Calls Tryz.prog 71 #[.agg #[ve,vk]] w fun e w'=>e=.returned (.bool (t.right 5))/\Below w.heap.size w w':=by
 obtain⟨A,n,A',m,rfl,rfl⟩:=Qj h
 have hb0:Below w.heap.size w (w.alloc (.cells #[.slice A t.es.length n,.slice A' t.ks.length m] 25)):=(Below.refl _ w).alloc (Nat.le_refl _) _
 go_enter Tryz.func71,Tryz.ntmps71
 go_wp2_with (go_at_call 118;refine (qJf t 5 _ _ _ (Qi hb0 (by simp) _ _ _ h) (by omega) (by omega)).mono ?_;rintro e w1 ⟨rfl,hb1⟩)
 go_ret
 exact⟨rfl,hb0.trans (hb1.mono (by simp))⟩
theorem OwnP.fresh1 {α:Type}{w:World}{base n:Nat}{e:TypeId}{sz:Nat}{E:α->List Value->Prop}{x:α}{cs:List Value}(hE:E x cs)(hl:cs.length=sz)(h:w.heap[n]?=some (.cells cs.toArray e (0,0)))(hb:base<=n):OwnP w base e sz E (.slice (some ⟨n,0,none⟩) 1 1) [x]:=by
 subst hl
 refine⟨[cs],⟨rfl,fun j y hy=>?_⟩,by simp,.inr ⟨n,1,cs.toArray,rfl,hb,h,Nat.le_refl _,by simp[maxLen],by simp,by simp⟩⟩
 match j,hy with
 |0,hy=>simp at hy;subst hy;exact⟨cs,rfl,hE,rfl⟩
theorem KP (d:Dt)(w:World)(h:d.Ok) :
  Calls Tryz.prog 151 #[.agg #[.int .i64 d.dc,.int .i64 d.n]] w (RetO w 45 3 (fun _=>SpE) [⟨d.dc,d.n,d.n⟩]):=by
 go_enter Tryz.func151,Tryz.ntmps151
 go_wp2_with fail
 go_ret
 exact⟨_,rfl,OwnP.fresh1 (cs:=[.int .i64 d.dc,.int .i64 d.n,.int .i64 d.n]) ⟨rfl,h.dc,h.n,h.n⟩ rfl (Qd (by simp)) (by omega),((Below.refl _ w).alloc (Nat.le_refl _) _).alloc (by simp) _⟩
def QN (ls:Nat->List (Int×Int))(k:Nat):List Sp:=(List.range k).flatMap fun (dc:Nat)=>Qz (dc:Int) (ls dc)
theorem ZO (ls:Nat->List (Int×Int))(k:Nat):QN ls (k+1)=QN ls k++Qz (k:Int) (ls k):=by
 unfold QN;rw[List.range_succ,List.flatMap_append];simp
theorem KV (ls:Nat->List (Int×Int))(n:Nat)(h:∀ i,i<4->(ls i).length<=n):∀ k,k<=4->(QN ls k).length<=k*n
 |0,_=>by simp[QN]
 |k+1,hk=>by
  rw[ZO,List.length_append,Nat.add_mul]
  have:=KV ls n h k (by omega)
  have h2:=h k (by omega)
  unfold Qz;rw[List.length_map];omega
theorem VZ (ls:Nat->List (Int×Int))(vs:Nat->Value)(w:World)(h:∀ i,i<4->SlP w w.heap.size 2 RuE (vs i) (ls i))(hN:∀ i,i<4->(ls i).length<=200000) :
  Calls Tryz.prog 134 #[.agg #[vs 0,vs 1,vs 2,vs 3]] w (RetO w 45 3 (fun _=>SpE) (QN ls 4)):=by
 obtain⟨A0,m0,g0,_⟩:=h 0 (by omega)
 obtain⟨A1,m1,g1,_⟩:=h 1 (by omega)
 obtain⟨A2,m2,g2,_⟩:=h 2 (by omega)
 obtain⟨A3,m3,g3,_⟩:=h 3 (by omega)
 have G0:=hid g0
 have G1:=hid g1
 have G2:=hid g2
 have G3:=hid g3
 have H:=hid h
 simp only[g0,g1,g2,g3]
 clear g0 g1 g2 g3 h
 go_enter Tryz.func134,Tryz.ntmps134
 go_wp2_with fail
 go_loopw [3,9] (fun v i wr=>∃ k:Nat,k<=4/\i=.int .i64 k/\OwnP wr (w.heap.size+1) 45 3 SpE v (QN ls k)/\Below w.heap.size w wr) (fun _ i _=>4-(intOf i).toNat)
 case atStart=>exact⟨0,Nat.zero_le _,rfl,OwnP.nil,(Below.refl _ _).alloc (Nat.le_refl _) _⟩
 case round=>
  obtain⟨k,hk,rfl,hown,hb⟩:=hrel
  have hsz:=hb.size
  by_cases hlt:k<4
  ·obtain⟨A,n,gv,b1,b2,b3⟩:=H.out k hlt
   have hNk:=hN k hlt
   have hidx:∀ w,(Instr.index 162 (.agg #[.slice A0 (ls 0).length m0,.slice A1 (ls 1).length m1,.slice A2 (ls 2).length m2,.slice A3 (ls 3).length m3]) (.int .i64 (k:Int))).run Tryz.prog w=.ok (.slice A (ls k).length n) w:=fun w=>by
    rw[←gv]
    match k,hlt with
    |0,_=>rw[G0.out];rfl
    |1,_=>rw[G1.out];rfl
    |2,_=>rw[G2.out];rfl
    |3,_=>rw[G3.out];rfl
   have hkl:decide ((k:Int)<4)=true:=by simp;omega
   have HK:=hid (ZO ls k)
   have hwl:=KV ls 200000 hN k hk
   have hwl2:(QN ls k).length<=600000:=by omega
   clear gv hwl
   unfold Big at b2
   go_wp2_with fail
   obtain⟨wo,rfl⟩:∃ wo:World,wo=wr:=⟨_,rfl⟩
   go_loopw [3,15] (fun v i wr=>∃ j:Nat,j<=(ls k).length/\i=.int .i64 j/\OwnP wr (w.heap.size+1) 45 3 SpE v (QN ls k++Qz (k:Int) ((ls k).take j))/\Below w.heap.size w wr) (fun _ i _=>(ls k).length-(intOf i).toNat)
   case atStart=>exact⟨0,Nat.zero_le _,rfl,by simpa[Qz] using hown,hb⟩
   case round=>
    obtain⟨j,hj,rfl,hown,hb⟩:=hrel
    have hsz:=hb.size
    have hsz1:w.heap.size+1<=wr.heap.size+1:=by omega
    by_cases hjl:j<(ls k).length
    ·obtain⟨x,hx⟩:∃ x,(ls k)[j]?=some x:=⟨_,List.getElem?_eq_getElem hjl⟩
     obtain⟨b,off,rfl,hbB,hc⟩:=b3 (by intro e;rw[e]at hjl;simp at hjl)
     obtain⟨cs,⟨rfl,hok⟩,_,hu⟩:=hc j _ hx
     have e0:wr.cell? ⟨b,off+j*2,none⟩=some (.int .i64 x.1):=(hb.cell hbB).trans (hu 0 _ rfl)
     have e1:wr.cell? ⟨b,off+j*2+1,none⟩=some (.int .i64 x.2):=(hb.cell hbB).trans (hu 1 _ rfl)
     have HX:Hid (QN ls k++Qz (k:Int) ((ls k).take (j+1))=(QN ls k++Qz (k:Int) ((ls k).take j))++[⟨k,x.1,x.2⟩]):=by unfold Hid Qz;rw[ZF hx,List.map_append,List.append_assoc];rfl
     have HL:Hid ((QN ls k++Qz (k:Int) ((ls k).take j)).length + [(⟨k,x.1,x.2⟩:Sp)].length<=Few):=by
      unfold Hid Few Qz;simp;omega
     have J0:Hid (SpE ⟨k,x.1,x.2⟩ [.int .i64 (k:Int),.int .i64 x.1,.int .i64 x.2]):=⟨rfl,⟨by show _<=(k:Int);omega,by show (k:Int)<=_;omega⟩,hok.1,hok.2⟩
     clear hu hx hc b3 hok
     go_wp2_with (at_builtin;go_loud ((refine Qk rfl (.tmp 19) (.tmp 26) _ rfl JF (by decide) (by decide) (fun _ _ h=>h.one) rfl ((hown.alloc _).alloc _) rfl (SlP.one J0.out rfl _ (by simp)) HL.out (by rw[World.size_alloc,World.size_alloc];omega) ?_);intro v1 w1 hown1 hb1 _))
     go_roundw
     case rel=>exact⟨j+1,by omega,by go_num,by rw[HX.out];exact hown1,(((hb.alloc hsz _).alloc (by rw[World.size_alloc];omega) _).trans (hb1.mono (by omega)))⟩
     case measure=>simp[intOf];omega
    ·obtain rfl:j=(ls k).length:=by omega
     rw[List.take_of_length_le (Nat.le_refl _)]at hown
     go_wp2_with fail
     go_roundw
     case rel=>exact⟨k+1,by omega,by go_num,by rw[HK.out];exact hown,hb⟩
     case measure=>simp[intOf];omega
  ·obtain rfl:k=4:=by omega
   go_wp2_with fail
   go_ret
   exact⟨_,rfl,hown.mono (by omega),hb⟩
def PopQ (Q:Exit->Act->World->Prop)(R:Act->World->Prop):Exit->Act->World->Prop
 |.normal,a,w=>R a w
 |e,a,w=>Q e a w
theorem PopQ.wp {P:Program}{o:Oper}{a:Act}{w:World}{K:Act->World->Prop}{Q:Exit->Act->World->Prop}{R:Act->World->Prop}(h:o.wp P a w K (PopQ Q R)):o.wp P a w K Q:=by
 unfold Oper.wp at *
 cases hr:(execOp a.eval o).run P w with
 |ok n w'=>
  rw[hr]at h
  cases n with
  |value v=>exact h
  |skip=>exact h
  |defer d=>exact h
  |enter f args=>exact Calls.mono h fun e w'' he=>by cases e<;>exact he
  |row row args=>exact h
  |_=>exact h
 |halt x w'=>
  rw[hr]at h
  cases x<;>exact h
section
variable {P:Program}{Q:Exit->Act->World->Prop}{md:Region.Mode}{ops':Array Oper}{o:Oper}
theorem X8 (hord:∀ (j:Nat) (x:Oper),ops'[j]?=some x->∀ e∈x.after,e.on<j){listed:Array Bool}(hs:listed.size=ops'.size)(hr:Region.ready md ops' listed=[]):∀ j,j<ops'.size->listed.getD j false=true:=by
 intro j
 induction j using Nat.strongRecOn with
 |ind j ih=>
  intro hj
  cases hl:listed.getD j false with
  |true=>rfl
  |false=>
   have hx:ops'[j]?=some ops'[j]:=Array.getElem?_eq_getElem hj
   have:j∈Region.ready md ops' listed:=mem_ready.2 ⟨by simp[Array.getElem?_eq_getElem (hs▸hj:j<listed.size)]at hl ⊢;exact hl,_,hx,fun e he _=>ih e.on (hord j _ hx e he) (Nat.lt_trans (hord j _ hx e he) hj)⟩
   rw[hr]at this;cases this
theorem qX4 (hg:∀ (j:Nat) (x:Oper),ops'[j]?=some x->x.guard=none){i:Nat}{a:Act}{w:World}{K K':Act->World->Prop}{R:Act->World->Prop}(hi:i<ops'.size)(hK:∀ a w,K a w->K' a w)(h:wpOp P ops' (PopQ Q R) i K a w) :
  wpOp P (ops'.push o) Q i K' a w:=by
 have hx:ops'[i]?=some ops'[i]:=Array.getElem?_eq_getElem hi
 have hx':(ops'.push o)[i]?=some ops'[i]:=by rw[Array.getElem?_push,if_neg (by omega)];exact hx
 have hw:∀ ops:Array Oper,Region.wanted ops'[i] (yielded ops a.tmps)=true:=fun ops=>by simp[Region.wanted,hg i _ hx]
 unfold wpOp at *
 rw[hx'] ;rw[hx]at h
 simp only[hw,if_true]at *
 rcases h with h|h
 ·exact .inl (Oper.wp_mono hK (PopQ.wp h))
 ·exact .inr h
theorem qVh (hg:∀ (j:Nat) (x:Oper),ops'[j]?=some x->x.guard=none)(hord:∀ (j:Nat) (x:Oper),ops'[j]?=some x->∀ e∈x.after,e.on<j)(hlast:∀ j,j<ops'.size->∃ e∈o.after,Region.binds md e=true/\e.on=j)(hon:∀ e∈o.after,e.on<ops'.size)(hgo:o.guard=none) :
  ∀ (fuel:Nat) (listed:Array Bool) (a:Act) (w:World),listed.size=ops'.size->wpAny P md ops' (PopQ Q (wpList P (ops'.push o) Q [o])) fuel listed a w->wpAny P md (ops'.push o) Q (fuel+1) (listed.push false) a w:=by
 have hin:∀ (listed:Array Bool),listed.size=ops'.size->∀ i,i∈Region.ready md (ops'.push o) (listed.push false)->(i<ops'.size/\i∈Region.ready md ops' listed)∨(i=ops'.size/\Region.ready md ops' listed=[]):=by
  intro listed hs i hi
  obtain⟨h1,x,hx,h2⟩:=mem_ready.1 hi
  have hlt:i<ops'.size+1:=by have:=(Array.getElem?_eq_some_iff.1 hx).1;simpa using this
  by_cases he:i<ops'.size
  ·refine .inl ⟨he,mem_ready.2 ⟨?_,x,?_,fun e hee hb=>?_⟩⟩
   ·simp only[Array.getD_eq_getD_getElem?,Array.getElem?_push,if_neg (show ¬i=listed.size by omega)]at h1 ⊢;exact h1
   ·rw[Array.getElem?_push,if_neg (by omega)]at hx;exact hx
   ·have hx2:ops'[i]?=some x:=by rw[Array.getElem?_push,if_neg (by omega)]at hx;exact hx
    have h3:=h2 e hee hb
    have h4:=hord i x hx2 e hee
    simp only[Array.getD_eq_getD_getElem?,Array.getElem?_push,if_neg (show ¬e.on=listed.size by omega)]at h3 ⊢;exact h3
  ·obtain rfl:i=ops'.size:=by omega
   refine .inr ⟨rfl,?_⟩
   have hxo:x=o:=by rw[Array.getElem?_push,if_pos rfl]at hx;exact (Option.some.inj hx).symm
   subst hxo
   rw[List.eq_nil_iff_forall_not_mem]
   intro j hj
   obtain⟨g1,y,hy,_⟩:=mem_ready.1 hj
   have hj':=(Array.getElem?_eq_some_iff.1 hy).1
   obtain⟨e,he1,he2,he3⟩:=hlast j hj'
   have h3:=h2 e he1 he2
   rw[he3]at h3
   simp only[Array.getD_eq_getD_getElem?,Array.getElem?_push,if_neg (show ¬j=listed.size by omega)]at h3 g1
   rw[Array.getElem?_eq_getElem (show j<listed.size by omega)]at h3 g1
   simp at h3 g1;rw[h3]at g1;cases g1
 have hfin:∀ (listed:Array Bool),listed.size=ops'.size->Region.ready md ops' listed=[]->Region.ready md (ops'.push o) ((listed.push false).setIfInBounds ops'.size true)=[]:=by
  intro listed hs hr
  rw[List.eq_nil_iff_forall_not_mem]
  intro j hj
  obtain⟨g1,y,hy,_⟩:=mem_ready.1 hj
  have hj':j<ops'.size+1:=by have:=(Array.getElem?_eq_some_iff.1 hy).1;simpa using this
  by_cases he:j<ops'.size
  ·have:=X8 hord hs hr j he
   simp only[Array.getD_eq_getD_getElem?,Array.getElem?_setIfInBounds,Array.getElem?_push,if_neg (show ¬ops'.size=j by omega),if_neg (show ¬j=listed.size by omega)]at g1 this
   rw[Array.getElem?_eq_getElem (show j<listed.size by omega)]at g1 this
   simp at g1 this;rw[this]at g1;cases g1
  ·obtain rfl:j=ops'.size:=by omega
   simp[hs]at g1
 have hstep:∀ (fuel:Nat) (listed:Array Bool) (a:Act) (w:World),listed.size=ops'.size->Region.ready md ops' listed=[]->wpList P (ops'.push o) Q [o] a w->wpOp P (ops'.push o) Q ops'.size (wpAny P md (ops'.push o) Q fuel ((listed.push false).setIfInBounds ops'.size true)) a w:=by
  intro fuel listed a w hs hr h
  unfold wpOp
  rw[Array.getElem?_push,if_pos rfl]
  have hw:Region.wanted o (yielded (ops'.push o) a.tmps)=true:=by simp[Region.wanted,hgo]
  unfold wpList at h
  simp only[hw,if_true]at *
  have hK:∀ a w,wpList P (ops'.push o) Q [] a w->wpAny P md (ops'.push o) Q fuel ((listed.push false).setIfInBounds ops'.size true) a w:=fun a w hq=>by
   have:=hfin listed hs hr
   cases fuel with
   |zero=>exact⟨this,hq⟩
   |succ fuel=>exact⟨fun _=>hq,by rw[this];simp⟩
  rcases h with h|h
  ·exact .inl (Oper.wp_mono hK h)
  ·exact .inr h
 intro fuel
 induction fuel with
 |zero=>
  intro listed a w hs h
  obtain⟨h1,h2⟩:=h
  refine⟨fun h0=>?_,fun i hi=>?_⟩
  ·exfalso
   have:ops'.size∈Region.ready md (ops'.push o) (listed.push false):=mem_ready.2 ⟨by simp[←hs],o,by simp,fun e he _=>by
    have:=X8 hord hs h1 e.on (hon e he)
    simp only[Array.getD_eq_getD_getElem?,Array.getElem?_push,if_neg (show ¬e.on=listed.size by have:=hon e he;omega)]at this ⊢;exact this⟩
   rw[h0]at this;cases this
  ·rcases hin listed hs i hi with⟨_,h3⟩|⟨rfl,_⟩
   ·rw[h1]at h3;cases h3
   ·exact hstep 0 listed a w hs h1 h2
 |succ fuel ih=>
  intro listed a w hs h
  obtain⟨h1,h2⟩:=h
  refine⟨fun h0=>?_,fun i hi=>?_⟩
  ·exfalso
   by_cases hr:Region.ready md ops' listed=[]
   ·have:ops'.size∈Region.ready md (ops'.push o) (listed.push false):=mem_ready.2 ⟨by simp[←hs],o,by simp,fun e he _=>by
     have:=X8 hord hs hr e.on (hon e he)
     simp only[Array.getD_eq_getD_getElem?,Array.getElem?_push,if_neg (show ¬e.on=listed.size by have:=hon e he;omega)]at this ⊢;exact this⟩
    rw[h0]at this;cases this
   ·obtain⟨i,hi⟩:=List.exists_mem_of_ne_nil _ hr
    obtain⟨g1,x,hx,g2⟩:=mem_ready.1 hi
    have hlt:=(Array.getElem?_eq_some_iff.1 hx).1
    have:i∈Region.ready md (ops'.push o) (listed.push false):=mem_ready.2 ⟨by
     simp only[Array.getD_eq_getD_getElem?,Array.getElem?_push,if_neg (show ¬i=listed.size by omega)]at g1 ⊢;exact g1,x,by rw[Array.getElem?_push,if_neg (by omega)];exact hx,fun e he hb=>by
     have h3:=g2 e he hb
     have h4:=hord i x hx e he
     simp only[Array.getD_eq_getD_getElem?,Array.getElem?_push,if_neg (show ¬e.on=listed.size by omega)]at h3 ⊢;exact h3⟩
    rw[h0]at this;cases this
  ·rcases hin listed hs i hi with⟨hlt,h3⟩|⟨rfl,hr⟩
   ·refine qX4 hg hlt (fun a w hk=>?_) (h2 i h3)
    have:=ih (listed.setIfInBounds i true) a w (by simpa using hs) hk
    rw[show (listed.push false).setIfInBounds i true=(listed.setIfInBounds i true).push false from ?_]
    ·exact this
    ·apply Array.ext_getElem?
     intro j
     simp only[Array.getElem?_setIfInBounds,Array.getElem?_push,Array.size_setIfInBounds,Array.size_push]
     by_cases e1:i=j
     ·subst e1
      simp[show i<listed.size by omega,show ¬i=listed.size by omega,show i<listed.size+1 by omega]
     ·simp[e1]
   ·exact hstep (fuel+1) listed a w hs hr (h1 hr)
end
def popB (ops':List Oper)(o:Oper):Bool:=
 ops'.all (fun x=>x.guard.isNone)&&o.guard.isNone&&((List.range ops'.length).all fun j=>match ops'[j]? with|some x=>x.after.all fun e=>decide (e.on<j)|none=>true) &&
  ((List.range ops'.length).all fun j=>o.after.any fun e=>Region.binds .any e&&(e.on==j))&&(o.after.all fun e=>decide (e.on<ops'.length))
theorem Vv {P:Program}{Q:Exit->Act->World->Prop}{S:World->Prop}{id:Nat}(ops':List Oper)(o:Oper){ops:Array Oper}{a:Act}{w:World}(hm:P.follows .mixedOrders=true)(ho:ops=(ops'++[o]).toArray)(hc:popB ops' o=true)
  (h:wpAnyH P .any ops'.toArray (PopQ Q (wpList P ops Q [o])) S ops'.length (List.replicate ops'.length false).toArray a w.drew):(Code.region id ops true).wp P Q a w:=by
 unfold popB at hc
 simp only[Bool.and_eq_true,List.all_eq_true,List.mem_range,Array.all_eq_true_iff_forall_mem,Array.any_eq_true',decide_eq_true_eq,beq_iff_eq,Option.isNone_iff_eq_none]at hc
 obtain⟨⟨⟨⟨c1,c2⟩,c3⟩,c4⟩,c5⟩:=hc
 have ho':ops=ops'.toArray.push o:=by rw[ho];simp
 have h':=wpAny_of_held _ _ _ _ h
 rw[ho']at h'
 have:=qVh (md:=.any) (ops':=ops'.toArray) (o:=o) (P:=P) (Q:=Q) (fun j x hx=>c1 x (by simpa using List.mem_of_getElem? (by simpa using hx)))
  (fun j x hx e he=>by
   have hx':ops'[j]?=some x:=by simpa using hx
   have:=c3 j (List.getElem?_eq_some_iff.1 hx').1
   rw[hx']at this
   simp only[Array.all_eq_true_iff_forall_mem,decide_eq_true_eq]at this
   exact this e he)
  (fun j hj=>by
   obtain⟨e,h1,h2⟩:=c4 j (by simpa using hj)
   exact⟨e,h1,h2.1,h2.2⟩)
  (fun e he=>by simpa using c5 e he) c2 ops'.length (List.replicate ops'.length false).toArray a w.drew (by simp) h'
 refine wp_region_any hm ?_
 rw[ho']
 have e1:(ops'.toArray.push o).size=ops'.length+1:=by simp
 have e2:Array.replicate (ops'.toArray.push o).size false=(List.replicate ops'.length false).toArray.push false:=by
  apply Array.ext'
  rw[e1];simp[List.replicate_succ']
 rw[e2,e1]
 exact this
def popL (n:Nat)(l:List Oper):Bool:=match l.drop n with|[o]=>((l.take n).length==n)&&popB (l.take n) o|_=>false
theorem ZP {P:Program}{Q:Exit->Act->World->Prop}{S:World->Prop}{id:Nat}(n:Nat){l:List Oper}{a:Act}{w:World}(hm:P.follows .mixedOrders=true)(hc:popL n l=true)
  (h:wpAnyH P .any (l.take n).toArray (PopQ Q (wpList P l.toArray Q (l.drop n))) S n (List.replicate n false).toArray a w.drew):(Code.region id l.toArray true).wp P Q a w:=by
 unfold popL at hc
 split at hc
 ·rename_i o ho
  simp only[Bool.and_eq_true,beq_iff_eq]at hc
  refine Vv (S:=S) (l.take n) o hm (by rw[←ho,List.take_append_drop]) hc.2 ?_
  rw[hc.1,←ho]
  exact h
 ·cases hc
def hasC (c:List Sp)(d:Dt):Bool:=d.right&&hasL (partL c d.dc) d.n
theorem ZG (c:List Sp)(d:Dt)(vc:Value)(w:World)(h:SlP w w.heap.size 3 SpE vc c)(hN:c.length<=999999) :
  Calls Tryz.prog 60 #[vc,.agg #[.int .i64 d.dc,.int .i64 d.n]] w fun e w'=>e=.returned (.bool (hasC c d))/\Below w.heap.size w w':=by
 have HB:Hid (∀ w',Below (w.heap.size+1) (w.alloc (.cells #[.int .i64 d.dc,.int .i64 d.n] 78)) w'->Below w.heap.size w w'/\w'.cell? ⟨w.heap.size,0,none⟩=some (.int .i64 d.dc)/\w'.cell? ⟨w.heap.size,1,none⟩=some (.int .i64 d.n)):=fun w' hb=>
  ⟨((Below.refl _ w).alloc (Nat.le_refl _) _).trans (hb.mono (by omega)),by rw[hb.cell (p:=⟨w.heap.size,0,none⟩) (by simp)];simp,by rw[hb.cell (p:=⟨w.heap.size,1,none⟩) (by simp)];simp⟩
 have HC:Hid (∀ w',Below w.heap.size w w'->SlP w' w'.heap.size 3 SpE vc c):=fun w' hb=>h.imp hb hb.size (fun _ _ _ h=>h)
 obtain⟨A,n,rfl,_,_,_⟩:=h
 go_enter Tryz.func60,Tryz.ntmps60
 rcases hr:d.right
 ·have f0:=Qh (B:=w.heap.size+1) (HB.out _ (Below.refl _ _)).2.1 (by omega)
  have f1:=Qh (B:=w.heap.size+1) (HB.out _ (Below.refl _ _)).2.2 (by omega)
  go_upto_region 1 with (fail)
  refine Qc (w.heap.size+1) (by kernel_rfl) (by kernel_rfl) ?_
  repeat (go_big_quiet_step ((go_at_call 66;exact Calls.far_of (by simp) (hr▸Zq d _))))
  refine wpQuiet_nil ?_
  intro wq hbq
  go_wp2_with fail
  go_ret
  exact⟨Qf (by rw[hasC,hr];rfl),(HB.out _ hbq).1⟩
 ·go_upto_region 1 with (fail)
  go_region_held3 (fun w'=>w'.cell? ⟨w.heap.size,0,none⟩=some (.int .i64 d.dc)/\w'.cell? ⟨w.heap.size,1,none⟩=some (.int .i64 d.n))
   (first|go_keep|exact (HB.out _ hb2).2|exact (HB.out _ hb1).2)
   (first
       |(go_at_call 66;refine (Zq d _).mono ?_;rw[hr];rintro e w1 ⟨rfl,hb⟩;have hb1:Below (w.heap.size+1) (w.alloc (.cells #[.int .i64 d.dc,.int .i64 d.n] 78)) w1:=((Below.refl _ _).drew).trans (hb.mono (by simp)))
       |(go_at_call 96;go_loud ((refine (Yp c d.dc _ w1 (HC.out _ (HB.out _ hb1).1) hN).mono ?_);rintro e w2 ⟨vp,rfl,ho,hb'⟩;have hb2:=hb1.trans (hb'.mono (by have:=hb1.size;simpa using this));have hsl:=ho.sl (by have:=QK c d.dc;unfold Big;omega)))
       |(go_at_call 95;go_loud ((refine (X1 (partL c d.dc) d.n _ w2 _ hsl).mono ?_);rintro e w3 ⟨rfl,rfl⟩)))
  go_wp2_with fail
  go_ret
  exact⟨Qf (by rw[hasC,hr];rfl),(HB.out _ hb2).1⟩
mutual
def Tr.room:Tr->Int->Int->Int
 |.mk es ks,left,deep=>Tr.roomL ks (left-es.length-ks.length) deep
def Tr.roomL:List (ByteArray×Tr)->Int->Int->Int
 |[],left,_=>left
 |(_,t) :: ks,left,deep=>if left<0∨deep=0 then -1 else Tr.roomL ks (t.room left (deep-1)) deep
end
mutual
theorem room_bd:∀ (t:Tr),t.Fit->∀ (left deep:Int),0<=left->-562949953421312<=t.room left deep/\t.room left deep<=left
 |.mk es ks,⟨b1,b2,h3⟩,left,deep,h0=>by
  unfold Big at b1 b2
  rw[Tr.room]
  have h4:=roomL_bd ks h3 (left-es.length-ks.length) deep (by omega)
  refine⟨h4.1,?_⟩
  cases ks with
  |nil=>rw[Tr.roomL];simp;omega
  |cons p ks=>have:=h4.2;simp only[List.length_cons]at *;omega
theorem roomL_bd:∀ (ks:List (ByteArray×Tr)),Tr.FitL ks->∀ (left deep:Int),-562949953421312<=left->-562949953421312<=Tr.roomL ks left deep/\Tr.roomL ks left deep<=max left (-1)
 |[],_,left,deep,h=>by rw[Tr.roomL];omega
 |(k,t) :: ks,⟨f1,f2⟩,left,deep,h=>by
  rw[Tr.roomL]
  split
  ·omega
  ·have h1:=room_bd t f1 left (deep-1) (by omega)
   have h2:=roomL_bd ks f2 (t.room left (deep-1)) deep h1.1
   omega
end
theorem zQh (t:Tr):∀ (left deep:Int) (w:World) (ve vk:Value),t.rd w w.heap.size ve vk->0<=left->left<=1000->0<=deep->deep<=1000 ->
  Calls Tryz.prog 117 #[.agg #[ve,vk],.int .i64 left,.int .i64 deep] w fun e w'=>e=.returned (.int .i64 (t.room left deep))/\Below w.heap.size w w':=by
 induction t using Tr.ind with
 |h es ks ih=>
 intro left deep w ve vk h h0 h1 h2 h3
 have hfit:=VM _ _ _ h
 rw[QA]at h
 obtain⟨⟨A,n,rfl,b1,b2,b3⟩,⟨B,m,rfl,c1,c2,c3⟩⟩:=h
 obtain⟨_,_,hfitL⟩:=hfit
 unfold Big at b2 c2
 clear b3
 go_enter Tryz.func117,Tryz.ntmps117
 go_wp2_with fail
 go_loopw [1,20] (fun l i wr=>∃ (k:Nat) (L:Int),k<=ks.length/\i=.int .i64 k/\l=.int .i64 L/\-562949953421312<=L/\L<=1000/\Hid (Tr.roomL (ks.drop k) L deep=Tr.roomL ks (left-es.length-ks.length) deep) /\
   Below (w.heap.size+1) (w.alloc (.cells #[.slice A es.length n,.slice B ks.length m] 25)) wr) (fun _ i _=>ks.length-(intOf i).toNat)
 case atStart=>exact⟨0,_,Nat.zero_le _,rfl,rfl,by omega,by omega,rfl,Below.refl _ _⟩
 case round=>
  obtain⟨k,L,hk,rfl,rfl,hL1,hL2,hrel,hb⟩:=hrel
  have hw1:wr.cell? ⟨w.heap.size,1,none⟩=some (.slice B ks.length m):=by rw[hb.cell (p:=⟨w.heap.size,1,none⟩) (by simp)];simp
  have hsz:=hb.size
  simp only[World.size_alloc]at hsz
  by_cases hlt:k<ks.length
  ·obtain⟨⟨key,t⟩,hkt⟩:∃ x,ks[k]?=some x:=⟨_,List.getElem?_eq_getElem hlt⟩
   obtain⟨b,off,rfl,hbB,hc⟩:=c3 (by rintro rfl;simp at hlt)
   obtain⟨cs,⟨ve,vk,rfl,_,hrd⟩,_,hu⟩:=hc k _ hkt
   have hb0:Below w.heap.size w wr:=((Below.refl _ w).alloc (Nat.le_refl _) _).trans (hb.mono (by omega))
   have e1:wr.cell? ⟨b,off+k*3+1,none⟩=some ve:=(hb0.cell hbB).trans (hu 1 _ rfl)
   have e2:wr.cell? ⟨b,off+k*3+2,none⟩=some vk:=(hb0.cell hbB).trans (hu 2 _ rfl)
   have hrd':=Qi hb0 (by omega:w.heap.size<=wr.heap.size) t _ _ hrd
   have HR:=hid hrd'
   clear hc hu hrd hrd' c3 hb0
   have hcons:ks.drop k=(key,t) :: ks.drop (k+1):=by
    rw[List.drop_eq_getElem_cons hlt];congr 1
    rw[List.getElem?_eq_getElem hlt]at hkt;exact Option.some.inj hkt
   have hmem:(key,t)∈ks:=List.mem_of_getElem? hkt
   have hbd:=fun h0=>room_bd t (qXn hfitL hmem) L (deep-1) h0
   have HC:=hid hcons
   clear hcons
   by_cases hL:L<0
   ·go_wp2_with fail
    go_ret
    refine⟨Qn ?_,((Below.refl _ w).alloc (Nat.le_refl _) _).trans (hb.mono (by omega))⟩
    rw[Tr.room,←hrel.out,HC.out,Tr.roomL,if_pos (by omega)]
   by_cases hd:deep=0
   ·subst hd
    go_wp2_with fail
    go_ret
    refine⟨Qn ?_,((Below.refl _ w).alloc (Nat.le_refl _) _).trans (hb.mono (by omega))⟩
    rw[Tr.room,←hrel.out,HC.out,Tr.roomL,if_pos (by omega)]
   ·have hd':(deep==0)=false:=by simpa using hd
    go_wp2_with (go_at_call 117;refine (ih key t hmem _ _ _ _ _ HR.out (by omega) (by omega) (by omega) (by omega)).mono ?_;rintro e w1 ⟨rfl,hb1⟩)
    go_roundw
    case rel=>
     refine⟨k+1,_,by omega,by go_num,rfl,(hbd (by omega)).1,by have:=hbd (by omega);omega,?_,hb.trans (hb1.mono hsz)⟩
     have h1:=hrel.out
     rw[HC.out,Tr.roomL,if_neg (by omega)]at h1
     exact h1
    case measure=>simp[intOf];omega
  ·obtain rfl:k=ks.length:=by omega
   go_wp2_with fail
   go_ret
   refine⟨Qn ?_,((Below.refl _ w).alloc (Nat.le_refl _) _).trans (hb.mono (by omega))⟩
   rw[Tr.room,←hrel.out]
   simp[Tr.roomL]
theorem V4 (t:Tr):∀ (deep:Int) (w:World) (ve vk:Value),t.rd w w.heap.size ve vk->0<=deep->deep<=1000 ->
  Calls Tryz.prog 90 #[.agg #[ve,vk],.int .i64 deep] w fun e w'=>e=.returned (.bool (t.right deep))/\Below w.heap.size w w':=by
 induction t using Tr.ind with
 |h es ks ih=>
 intro deep w ve vk h h0 h1
 rw[QA]at h
 obtain⟨⟨A0,n0,rfl,d1,d2,d3⟩,⟨A,m,rfl,c1,c2,c3⟩⟩:=h
 unfold Big at c2 d2
 by_cases hd:deep=0
 ·subst hd
  go_enter Tryz.func90,Tryz.ntmps90
  go_wp2_with fail
  go_ret
  exact⟨Qf (by rw[Tr.right];simp),by go_grown⟩
 have hd':(deep==0)=false:=by simpa using hd
 have hwd:IntKind.i64.wrap (deep-1)=deep-1:=IntWalk.i64_in _ (by omega)
 have hd1:1<=deep:=by omega
 clear hd
 go_enter Tryz.func90,Tryz.ntmps90
 go_wp2_with fail
 go_loopw [13] (fun i wr=>∃ k:Nat,k<=es.length/\i=.int .i64 k/\Hid (entsB (prevD es k) (es.drop k)=entsB none es)/\Below (w.heap.size+1) (w.alloc (.cells #[.slice A0 es.length n0,.slice A ks.length m] 25)) wr) (fun i _=>es.length-(intOf i).toNat)
 case atStart=>exact⟨0,Nat.zero_le _,rfl,rfl,Below.refl _ _⟩
 case round=>
  obtain⟨k,hk,rfl,hrel,hb⟩:=hrel
  have hsz:=hb.size
  simp only[World.size_alloc]at hsz
  have hB0:Below w.heap.size w wr:=((Below.refl _ w).alloc (Nat.le_refl _) _).trans (hb.mono (by omega))
  by_cases hlt:k<es.length
  ·obtain⟨x,hx⟩:∃ x,es[k]?=some x:=⟨_,List.getElem?_eq_getElem hlt⟩
   obtain⟨b,off,rfl,hbB,hc⟩:=d3 (by rintro rfl;simp at hlt)
   obtain⟨cs,⟨rfl,hok⟩,_,hu⟩:=hc k _ hx
   have f0:=Qh (B:=wr.heap.size) ((hB0.cell hbB).trans (hu 0 _ rfl)) (by omega)
   have f1:=Qh (B:=wr.heap.size) ((hB0.cell hbB).trans (hu 1 _ rfl)) (by omega)
   have f2:=Qh (B:=wr.heap.size) ((hB0.cell hbB).trans (hu 2 _ rfl)) (by omega)
   have f3:=Qh (B:=wr.heap.size) ((hB0.cell hbB).trans (hu 3 _ rfl)) (by omega)
   simp only[Nat.add_zero]at f0
   have z0:wr.cell? ⟨w.heap.size,0,none⟩=some (.slice (some ⟨b,off,none⟩) es.length n0):=by rw[hb.cell (p:=⟨w.heap.size,0,none⟩) (by simp)];simp
   have r0:=Qh (B:=wr.heap.size) z0 (by omega)
   have HB0:=hid hB0
   have hprev:∃ y:En,(0<k->es[k-1]?=some y/\(∀ p:Far wr.heap.size wr,p.w'.cell? ⟨b,off+(k-1)*4,none⟩=some (.int .i64 y.dc)/\p.w'.cell? ⟨b,off+(k-1)*4+1,none⟩=some (.int .i64 y.n))):=by
    by_cases h0:0<k
    ·obtain⟨y,hy⟩:∃ y,es[k-1]?=some y:=⟨_,List.getElem?_eq_getElem (by omega)⟩
     obtain⟨cs,⟨rfl,_⟩,_,hu⟩:=hc (k-1) _ hy
     exact⟨y,fun _=>⟨hy,fun p=>⟨Qh ((hB0.cell hbB).trans (hu 0 _ rfl)) (by omega) p,Qh ((hB0.cell hbB).trans (hu 1 _ rfl)) (by omega) p⟩⟩⟩
    ·exact⟨x,fun h=>absurd h h0⟩
   obtain⟨y,hprev⟩:=hprev
   have HR:Hid (entsB none es=(x.right&&okP (prevD es k) x.dot&&entsB (prevD es (k+1)) (es.drop (k+1)))):=by
    have:=hrel.out
    rw[QJ hx,ZE]at this
    rw[KG hx];exact this.symm
   clear hu hc hrel d3 c3 z0 hx hB0
   rcases hxr:x.right
   ·go_upto_region 6 with (fail)
    refine Qc wr.heap.size (by kernel_rfl) (by kernel_rfl) ?_
    repeat (go_big_quiet_step (first|(go_at_call 131;exact Calls.far_of (Nat.le_refl _) (ZX x _))|(go_at_call 80;exact Calls.far_of (Nat.le_refl _) (QD ⟨_,_⟩ ⟨_,_⟩ _))))
    refine wpQuiet_nil ?_
    intro wq hbq
    go_wp2_with fail
    go_ret
    refine⟨Qf ?_,HB0.out.trans (hbq.mono (by omega))⟩
    rw[Tr.right,HR.out]
    rw[hxr];simp
   rcases Nat.eq_zero_or_pos k with h0|h0
   ·have t0:decide ((0:Int)<(k:Int))=false:=by simp;omega
    have t0':decide (0<k)=false:=by simp;omega
    have H0:=hid h0
    clear h0 hprev
    go_upto_region 6 with (fail)
    refine Qc wr.heap.size (by kernel_rfl) (by kernel_rfl) ?_
    repeat (go_big_quiet_step (first|(go_at_call 131;exact Calls.far_of (Nat.le_refl _) (ZX x _))|(go_at_call 80;exact Calls.far_of (Nat.le_refl _) (QD ⟨_,_⟩ ⟨_,_⟩ _))))
    refine wpQuiet_nil ?_
    intro wq hbq
    go_wp2_with fail
    go_roundw
    case rel=>
     refine⟨k+1,by omega,by go_num,?_,hb.trans (hbq.mono (by omega))⟩
     show _=_
     rw[HR.out,hxr]
     rw[show prevD es k=none by (rw[H0.out];rfl)];simp[okP]
    case measure=>simp[intOf];omega
   obtain⟨hy,hq⟩:=hprev h0
   have q0:=fun p=>(hq p).1
   have q1:=fun p=>(hq p).2
   clear hq hprev
   have hyp:Hid (prevD es k=some y.dot):=by unfold Hid prevD;rw[if_neg (by omega),hy];rfl
   have hwk:IntKind.i64.wrap ((k:Int)-1)=(k:Int)-1:=IntWalk.i64_in _ (by omega)
   clear hy
   rcases t5:Dt.lt ⟨y.dc,y.n⟩ ⟨x.dc,x.n⟩
   ·go_upto_region 6 with (fail)
    refine Qc wr.heap.size (by kernel_rfl) (by kernel_rfl) ?_
    repeat (go_big_quiet_step (first|(go_at_call 131;exact Calls.far_of (Nat.le_refl _) (ZX x _))|(go_at_call 80;exact Calls.far_of (Nat.le_refl _) (QD ⟨_,_⟩ ⟨_,_⟩ _))))
    refine wpQuiet_nil ?_
    intro wq hbq
    go_wp2_with fail
    go_ret
    refine⟨Qf ?_,HB0.out.trans (hbq.mono (by omega))⟩
    rw[Tr.right,HR.out]
    rw[hyp.out,show okP (some y.dot) x.dot=false from t5];simp
   ·go_upto_region 6 with (fail)
    refine Qc wr.heap.size (by kernel_rfl) (by kernel_rfl) ?_
    repeat (go_big_quiet_step (first|(go_at_call 131;exact Calls.far_of (Nat.le_refl _) (ZX x _))|(go_at_call 80;exact Calls.far_of (Nat.le_refl _) (QD ⟨_,_⟩ ⟨_,_⟩ _))))
    refine wpQuiet_nil ?_
    intro wq hbq
    go_wp2_with fail
    go_roundw
    case rel=>
     refine⟨k+1,by omega,by go_num,?_,hb.trans (hbq.mono (by omega))⟩
     show _=_
     rw[HR.out,hxr]
     rw[hyp.out,show okP (some y.dot) x.dot=true from t5];simp
    case measure=>simp[intOf];omega
  ·obtain rfl:k=es.length:=by omega
   have hE:Hid (entsB none es=true):=by have:=hrel.out;rw[List.drop_of_length_le (Nat.le_refl _)]at this;rw[←this];simp[Hid,entsB]
   clear hrel
   have z9:wr.cell? ⟨w.heap.size,1,none⟩=some (.slice A ks.length m):=by rw[hb.cell (p:=⟨w.heap.size,1,none⟩) (by simp)];simp
   go_wp2_with fail
   clear z9
   obtain⟨wo,rfl⟩:∃ wo:World,wo=wr:=⟨_,rfl⟩
   go_loopw [48] (fun i wr=>∃ k:Nat,k<=ks.length/\i=.int .i64 k/\Hid (Tr.rightL (prevK ks k) (ks.drop k) deep=Tr.rightL none ks deep)/\Below (w.heap.size+1) (w.alloc (.cells #[.slice A0 es.length n0,.slice A ks.length m] 25)) wr) (fun i _=>ks.length-(intOf i).toNat)
   case atStart=>exact⟨0,Nat.zero_le _,rfl,rfl,hb⟩
   case round=>
    clear hb hsz hB0
    obtain⟨k,hk,rfl,hrel,hb⟩:=hrel
    have hsz:=hb.size
    simp only[World.size_alloc]at hsz
    have hB0:Below w.heap.size w wr:=((Below.refl _ w).alloc (Nat.le_refl _) _).trans (hb.mono (by omega))
    by_cases hlt:k<ks.length
    ·obtain⟨⟨key,t⟩,hx⟩:∃ x,ks[k]?=some x:=⟨_,List.getElem?_eq_getElem hlt⟩
     obtain⟨b,off,rfl,hbB,hc⟩:=c3 (by rintro rfl;simp at hlt)
     obtain⟨cs,⟨ve',vk',rfl,hkb,hrd⟩,_,hu⟩:=hc k _ hx
     have hbo:∀ o,wr.cell? ⟨b,o,none⟩=w.cell? ⟨b,o,none⟩:=fun o=>(hb.cell (p:=⟨b,o,none⟩) (by simp;omega)).trans (World.cell?_alloc_lt _ _ _ hbB)
     have hmem:(key,t)∈ks:=List.mem_of_getElem? hx
     obtain⟨es',ks'⟩:=t
     have hrd0:=hrd
     rw[QA]at hrd
     obtain⟨⟨A1,n1,rfl,l1,l1',_⟩,⟨A2,n2,rfl,l2,l2',_⟩⟩:=hrd
     unfold Big at l1' l2'
     have e0:wr.cell? ⟨b,off+k*3,none⟩=some (.string key):=(hbo _).trans (hu 0 _ rfl)
     have e1:wr.cell? ⟨b,off+k*3+1,none⟩=some (.slice A1 es'.length n1):=(hbo _).trans (hu 1 _ rfl)
     have e2:wr.cell? ⟨b,off+k*3+2,none⟩=some (.slice A2 ks'.length n2):=(hbo _).trans (hu 2 _ rfl)
     have z1:wr.cell? ⟨w.heap.size,1,none⟩=some (.slice (some ⟨b,off,none⟩) ks.length m):=by rw[hb.cell (p:=⟨w.heap.size,1,none⟩) (by simp)];simp
     have HO:=hid hbo
     clear hu hbo
     go_upto_region 13 with (fail)
     have hrd:Hid (∀ w',Below (wr.heap.size+1) (wr.alloc (.cells #[.string key,.slice A1 es'.length n1,.slice A2 ks'.length n2] 96)) w'->(Tr.mk es' ks').rd w' w'.heap.size (.slice A1 es'.length n1) (.slice A2 ks'.length n2)):=fun w' hb'=>by
      have h1:=hb'.size
      simp only[World.size_alloc]at h1
      exact Qi ((hB0.alloc (by omega) _).trans (hb'.mono (by omega))) (by omega) _ _ _ hrd0
     have f0:∀ p:Far (wr.heap.size+1) (wr.alloc (.cells #[.string key,.slice A1 es'.length n1,.slice A2 ks'.length n2] 96)),p.w'.cell? ⟨wr.heap.size,0,none⟩=some (.string key):=Qh (by simp) (by omega)
     have f1:∀ p:Far (wr.heap.size+1) (wr.alloc (.cells #[.string key,.slice A1 es'.length n1,.slice A2 ks'.length n2] 96)),p.w'.cell? ⟨wr.heap.size,1,none⟩=some (.slice A1 es'.length n1):=Qh (by simp) (by omega)
     have f2:∀ p:Far (wr.heap.size+1) (wr.alloc (.cells #[.string key,.slice A1 es'.length n1,.slice A2 ks'.length n2] 96)),p.w'.cell? ⟨wr.heap.size,2,none⟩=some (.slice A2 ks'.length n2):=Qh (by simp) (by omega)
     have g1:∀ p:Far (wr.heap.size+1) (wr.alloc (.cells #[.string key,.slice A1 es'.length n1,.slice A2 ks'.length n2] 96)),p.w'.cell? ⟨w.heap.size,1,none⟩=some (.slice (some ⟨b,off,none⟩) ks.length m):=Qh (by
      rw[World.cell?_alloc_lt _ _ _ (by exact hsz)];exact z1) (by omega)
     have hprev:∃ q:ByteArray,(0<k->prevK ks k=some q/\(∀ p:Far (wr.heap.size+1) (wr.alloc (.cells #[.string key,.slice A1 es'.length n1,.slice A2 ks'.length n2] 96)),p.w'.cell? ⟨b,off+(k-1)*3,none⟩=some (.string q))):=by
      by_cases h0:0<k
      ·obtain⟨y,hy⟩:∃ y,ks[k-1]?=some y:=⟨_,List.getElem?_eq_getElem (by omega)⟩
       obtain⟨cs,⟨_,_,rfl,_⟩,_,hu⟩:=hc (k-1) _ hy
       refine⟨y.1,fun _=>⟨by rw[prevK,if_neg (by omega),hy];rfl,fun p=>Qh ?_ (by omega) p⟩⟩
       rw[World.cell?_alloc_lt _ _ _ (by show b<wr.heap.size;omega)];exact (HO.out _).trans (hu 0 _ rfl)
      ·exact⟨key,fun h=>absurd h h0⟩
     obtain⟨q,hprev⟩:=hprev
     have HR:Hid (Tr.rightL none ks deep=(keyB key&&okK (prevK ks k) key&&!(Tr.mk es' ks').empty&&(Tr.mk es' ks').right (deep-1)&&Tr.rightL (prevK ks (k+1)) (ks.drop (k+1)) deep)):=by
      have:=hrel.out
      rw[QJ hx,QX]at this
      rw[KH hx];exact this.symm
     have HX:Hid (ks[k]?=some (key,.mk es' ks')):=hx
     have hemp:(Tr.mk es' ks').empty=(((es'.length:Int)+(ks'.length:Int))==0):=by
      rw[Bool.eq_iff_iff];simp[Tr.empty];constructor
      ·rintro⟨rfl,rfl⟩;simp
      ·intro h;exact⟨List.eq_nil_of_length_eq_zero (by omega),List.eq_nil_of_length_eq_zero (by omega)⟩
     have HM:=hid hemp
     have hsum:IntKind.i64.wrap ((es'.length:Int)+(ks'.length:Int))=(es'.length:Int)+(ks'.length:Int):=IntWalk.i64_in _ (by omega)
     clear hc hrel c3 hx e0 e1 e2 hrd0 hemp z1 d3
     rcases h1:keyB key
     ·go_upto_region 13 with (fail)
      refine Qc (wr.heap.size+1) (by kernel_rfl) (by kernel_rfl) ?_
      repeat (go_big_quiet_step (first|(go_at_call 132;exact Calls.far_of (by simp) (QU key _))|(go_at_call 90;exact Calls.far_all (by simp) (fun w' hb'=>(ih key (.mk es' ks') hmem (deep-1) w' _ _ (hrd.out w' hb') (by omega) (by omega))))))
      refine wpQuiet_nil ?_
      intro wq hbq
      have hbw:Below (w.heap.size+1) (w.alloc (.cells #[.slice A0 es.length n0,.slice (some ⟨b,off,none⟩) ks.length m] 25)) wq:=(hb.alloc (by omega) _).trans (hbq.mono (by omega))
      go_wp2_with fail
      go_ret
      refine⟨Qf ?_,((Below.refl _ w).alloc (Nat.le_refl _) _).trans (hbw.mono (by omega))⟩
      rw[Tr.right,HR.out,hE.out]
      rw[h1];simp
     rcases Nat.eq_zero_or_pos k with h0|h0
     ·have t0:decide ((0:Int)<(k:Int))=false:=by simp;omega
      have t0':decide (0<k)=false:=by simp;omega
      have hpk:Hid (okK (prevK ks k) key=true):=by rw[show prevK ks k=none by (rw[h0];rfl)];rfl
      clear h0 hprev
      rcases h6:(((es'.length:Int)+(ks'.length:Int))==0)
      case true=>
       have h6':(es'.length:Int)+(ks'.length:Int)=0:=by simpa using h6
       go_upto_region 13 with (fail)
       refine Qc (wr.heap.size+1) (by kernel_rfl) (by kernel_rfl) ?_
       repeat (go_big_quiet_step (first|(go_at_call 132;exact Calls.far_of (by simp) (QU key _))|(go_at_call 90;exact Calls.far_all (by simp) (fun w' hb'=>(ih key (.mk es' ks') hmem (deep-1) w' _ _ (hrd.out w' hb') (by omega) (by omega))))))
       refine wpQuiet_nil ?_
       intro wq hbq
       have hbw:Below (w.heap.size+1) (w.alloc (.cells #[.slice A0 es.length n0,.slice (some ⟨b,off,none⟩) ks.length m] 25)) wq:=(hb.alloc (by omega) _).trans (hbq.mono (by omega))
       go_wp2_with fail
       go_ret
       refine⟨Qf ?_,((Below.refl _ w).alloc (Nat.le_refl _) _).trans (hbw.mono (by omega))⟩
       rw[Tr.right,HR.out,hE.out]
       rw[HM.out,h6];simp
      rcases h7:(Tr.mk es' ks').right (deep-1)
      ·go_upto_region 13 with (fail)
       refine Qc (wr.heap.size+1) (by kernel_rfl) (by kernel_rfl) ?_
       repeat (go_big_quiet_step (first|(go_at_call 132;exact Calls.far_of (by simp) (QU key _))|(go_at_call 90;exact Calls.far_all (by simp) (fun w' hb'=>(ih key (.mk es' ks') hmem (deep-1) w' _ _ (hrd.out w' hb') (by omega) (by omega))))))
       refine wpQuiet_nil ?_
       intro wq hbq
       have hbw:Below (w.heap.size+1) (w.alloc (.cells #[.slice A0 es.length n0,.slice (some ⟨b,off,none⟩) ks.length m] 25)) wq:=(hb.alloc (by omega) _).trans (hbq.mono (by omega))
       go_wp2_with fail
       go_ret
       refine⟨Qf ?_,((Below.refl _ w).alloc (Nat.le_refl _) _).trans (hbw.mono (by omega))⟩
       rw[Tr.right,HR.out,hE.out]
       rw[h7];simp
      ·go_upto_region 13 with (fail)
       refine Qc (wr.heap.size+1) (by kernel_rfl) (by kernel_rfl) ?_
       repeat (go_big_quiet_step (first|(go_at_call 132;exact Calls.far_of (by simp) (QU key _))|(go_at_call 90;exact Calls.far_all (by simp) (fun w' hb'=>(ih key (.mk es' ks') hmem (deep-1) w' _ _ (hrd.out w' hb') (by omega) (by omega))))))
       refine wpQuiet_nil ?_
       intro wq hbq
       have hbw:Below (w.heap.size+1) (w.alloc (.cells #[.slice A0 es.length n0,.slice (some ⟨b,off,none⟩) ks.length m] 25)) wq:=(hb.alloc (by omega) _).trans (hbq.mono (by omega))
       go_wp2_with fail
       go_roundw
       case rel=>
        refine⟨k+1,by omega,by go_num,?_,hbw⟩
        show _=_
        rw[HR.out,h1]
        rw[hpk.out,HM.out,h6,h7];simp
       case measure=>simp[intOf];omega
     ·obtain⟨hq,q0⟩:=hprev h0
      have hwk:IntKind.i64.wrap ((k:Int)-1)=(k:Int)-1:=IntWalk.i64_in _ (by omega)
      rcases t5:Op.bytesLess q.toList key.toList
      ·have hpk:Hid (okK (prevK ks k) key=false):=by rw[hq];exact t5
       clear hprev hq
       go_upto_region 13 with (fail)
       refine Qc (wr.heap.size+1) (by kernel_rfl) (by kernel_rfl) ?_
       repeat (go_big_quiet_step (first|(go_at_call 132;exact Calls.far_of (by simp) (QU key _))|(go_at_call 90;exact Calls.far_all (by simp) (fun w' hb'=>(ih key (.mk es' ks') hmem (deep-1) w' _ _ (hrd.out w' hb') (by omega) (by omega))))))
       refine wpQuiet_nil ?_
       intro wq hbq
       have hbw:Below (w.heap.size+1) (w.alloc (.cells #[.slice A0 es.length n0,.slice (some ⟨b,off,none⟩) ks.length m] 25)) wq:=(hb.alloc (by omega) _).trans (hbq.mono (by omega))
       go_wp2_with fail
       go_ret
       refine⟨Qf ?_,((Below.refl _ w).alloc (Nat.le_refl _) _).trans (hbw.mono (by omega))⟩
       rw[Tr.right,HR.out,hE.out]
       rw[h1,hpk.out];simp
      ·have hpk:Hid (okK (prevK ks k) key=true):=by rw[hq];exact t5
       clear hprev hq
       rcases h6:(((es'.length:Int)+(ks'.length:Int))==0)
       case true=>
        have h6':(es'.length:Int)+(ks'.length:Int)=0:=by simpa using h6
        go_upto_region 13 with (fail)
        refine Qc (wr.heap.size+1) (by kernel_rfl) (by kernel_rfl) ?_
        repeat (go_big_quiet_step (first|(go_at_call 132;exact Calls.far_of (by simp) (QU key _))|(go_at_call 90;exact Calls.far_all (by simp) (fun w' hb'=>(ih key (.mk es' ks') hmem (deep-1) w' _ _ (hrd.out w' hb') (by omega) (by omega))))))
        refine wpQuiet_nil ?_
        intro wq hbq
        have hbw:Below (w.heap.size+1) (w.alloc (.cells #[.slice A0 es.length n0,.slice (some ⟨b,off,none⟩) ks.length m] 25)) wq:=(hb.alloc (by omega) _).trans (hbq.mono (by omega))
        go_wp2_with fail
        go_ret
        refine⟨Qf ?_,((Below.refl _ w).alloc (Nat.le_refl _) _).trans (hbw.mono (by omega))⟩
        rw[Tr.right,HR.out,hE.out]
        rw[HM.out,h6];simp
       rcases h7:(Tr.mk es' ks').right (deep-1)
       ·go_upto_region 13 with (fail)
        refine Qc (wr.heap.size+1) (by kernel_rfl) (by kernel_rfl) ?_
        repeat (go_big_quiet_step (first|(go_at_call 132;exact Calls.far_of (by simp) (QU key _))|(go_at_call 90;exact Calls.far_all (by simp) (fun w' hb'=>(ih key (.mk es' ks') hmem (deep-1) w' _ _ (hrd.out w' hb') (by omega) (by omega))))))
        refine wpQuiet_nil ?_
        intro wq hbq
        have hbw:Below (w.heap.size+1) (w.alloc (.cells #[.slice A0 es.length n0,.slice (some ⟨b,off,none⟩) ks.length m] 25)) wq:=(hb.alloc (by omega) _).trans (hbq.mono (by omega))
        go_wp2_with fail
        go_ret
        refine⟨Qf ?_,((Below.refl _ w).alloc (Nat.le_refl _) _).trans (hbw.mono (by omega))⟩
        rw[Tr.right,HR.out,hE.out]
        rw[h7];simp
       ·go_upto_region 13 with (fail)
        refine Qc (wr.heap.size+1) (by kernel_rfl) (by kernel_rfl) ?_
        repeat (go_big_quiet_step (first|(go_at_call 132;exact Calls.far_of (by simp) (QU key _))|(go_at_call 90;exact Calls.far_all (by simp) (fun w' hb'=>(ih key (.mk es' ks') hmem (deep-1) w' _ _ (hrd.out w' hb') (by omega) (by omega))))))
        refine wpQuiet_nil ?_
        intro wq hbq
        have hbw:Below (w.heap.size+1) (w.alloc (.cells #[.slice A0 es.length n0,.slice (some ⟨b,off,none⟩) ks.length m] 25)) wq:=(hb.alloc (by omega) _).trans (hbq.mono (by omega))
        go_wp2_with fail
        go_roundw
        case rel=>
         refine⟨k+1,by omega,by go_num,?_,hbw⟩
         show _=_
         rw[HR.out,h1]
         rw[hpk.out,HM.out,h6,h7];simp
        case measure=>simp[intOf];omega
    ·obtain rfl:k=ks.length:=by omega
     have hr:=hrel.out
     go_wp2_with fail
     go_ret
     refine⟨Qf ?_,hB0⟩
     rw[Tr.right,←hr,hE.out]
     simp[Tr.rightL];omega
theorem QO (t:Tr)(w:World)(ve vk:Value)(h:t.rd w w.heap.size ve vk) :
  Calls Tryz.prog 48 #[.agg #[ve,vk]] w fun e w'=>e=.returned (.bool (t.right 5))/\Below w.heap.size w w':=by
 obtain⟨A,n,A',m,rfl,rfl⟩:=Qj h
 have hb0:Below w.heap.size w (w.alloc (.cells #[.slice A t.es.length n,.slice A' t.ks.length m] 25)):=(Below.refl _ w).alloc (Nat.le_refl _) _
 go_enter Tryz.func48,Tryz.ntmps48
 go_wp2_with (go_at_call 90;refine (V4 t 5 _ _ _ (Qi hb0 (by simp) _ _ _ h) (by omega) (by omega)).mono ?_;rintro e w1 ⟨rfl,hb1⟩)
 go_ret
 exact⟨rfl,hb0.trans (hb1.mono (by simp))⟩
theorem V5 (t:Tr)(w:World)(ve vk:Value)(n:Int)(h:t.rd w w.heap.size ve vk)(h0:0<=n)(h1:n<=1000) :
  Calls Tryz.prog 70 #[.agg #[ve,vk],.int .i64 n] w fun e w'=>e=.returned (.bool (decide (0<=t.room n 8)))/\Below w.heap.size w w':=by
 obtain⟨A,n',A',m,rfl,rfl⟩:=Qj h
 have hb0:Below w.heap.size w (w.alloc (.cells #[.slice A t.es.length n',.slice A' t.ks.length m] 25)):=(Below.refl _ w).alloc (Nat.le_refl _) _
 go_enter Tryz.func70,Tryz.ntmps70
 go_wp2_with (go_at_call 117;refine (zQh t n 8 _ _ _ (Qi hb0 (by simp) _ _ _ h) h0 h1 (by omega) (by omega)).mono ?_;rintro e w1 ⟨rfl,hb1⟩)
 go_ret
 exact⟨rfl,hb0.trans (hb1.mono (by simp))⟩
mutual
def Tr.dep:Tr->Nat|.mk _ ks=>Tr.depL ks+1
def Tr.depL:List (ByteArray×Tr)->Nat|[]=>0|(_,t) :: ks=>max t.dep (Tr.depL ks)
end
theorem qZq:∀ {ks:List Kd}{k:ByteArray}{t:Tr},(k,t)∈ks->t.dep<=Tr.depL ks
 |(k',t') :: ks,k,t,h=>by
  rw[Tr.depL]
  rcases List.mem_cons.1 h with e|e
  ·cases e;exact Nat.le_max_left _ _
  ·exact Nat.le_trans (qZq e) (Nat.le_max_right _ _)
theorem qQc:∀ {ks:List Kd}{n:Nat}{k:ByteArray}{t:Tr},ks[n]?=some (k,t)->Tr.depL (ks.take (n+1))=max (Tr.depL (ks.take n)) t.dep
 |(k',t') :: ks,0,k,t,h=>by simp at h;obtain⟨rfl,rfl⟩:=h;simp[Tr.depL]
 |(k',t') :: ks,n+1,k,t,h=>by
  simp only[List.take_succ_cons]
  rw[Tr.depL,Tr.depL,qQc (ks:=ks) (n:=n) (by simpa using h),Nat.max_assoc]
theorem qQd (ks:List Kd):∀ n,Tr.depL (ks.take n)<=Tr.depL ks:=by
 induction ks with
 |nil=>intro n;simp
 |cons x ks ih=>
  obtain⟨k,t⟩:=x
  intro n
  cases n with
  |zero=>simp[Tr.depL]
  |succ n=>simp only[List.take_succ_cons];rw[Tr.depL,Tr.depL];have:=ih n;omega
theorem zXi (a b:Nat):max (a:Int) (b:Int)=((max a b:Nat):Int):=by omega
theorem qVm (t:Tr):∀ (w:World) (ve vk:Value),t.rd w w.heap.size ve vk->t.dep<=1000 ->
  Calls Tryz.prog 175 #[.agg #[ve,vk]] w fun e w'=>e=.returned (.int .i64 (t.dep:Nat))/\Below w.heap.size w w':=by
 induction t using Tr.ind with
 |h es ks ih=>
 intro w ve vk h hN
 rw[QA]at h
 obtain⟨⟨A1,n,rfl,b1,b2,b3⟩,⟨A2,m,rfl,c1,c2,c3⟩⟩:=h
 clear b3
 unfold Big at b2 c2
 rw[Tr.dep]at hN
 go_enter Tryz.func175,Tryz.ntmps175
 go_wp2_with fail
 go_loopw [3,9] (fun v i wr=>∃ k:Nat,k<=ks.length/\i=.int .i64 k/\v=.int .i64 (Tr.depL (ks.take k):Nat) /\
   Below (w.heap.size+1) (w.alloc (.cells #[.slice A1 es.length n,.slice A2 ks.length m] 25)) wr) (fun _ i _=>ks.length-(intOf i).toNat)
 case atStart=>exact⟨0,Nat.zero_le _,rfl,by simp[Tr.depL],Below.refl _ _⟩
 case round=>
  obtain⟨k,hk,rfl,rfl,hb⟩:=hrel
  have hsz:=hb.size
  simp only[World.size_alloc]at hsz
  have hdk:=qQd ks k
  by_cases hlt:k<ks.length
  ·obtain⟨⟨key,t⟩,hx⟩:∃ x,ks[k]?=some x:=⟨_,List.getElem?_eq_getElem hlt⟩
   obtain⟨b,off,rfl,hbB,hc⟩:=c3 (by rintro rfl;simp at hlt)
   obtain⟨cs,⟨ve',vk',rfl,hkb,hrd⟩,_,hu⟩:=hc k _ hx
   obtain⟨A3,n3,A4,n4,rfl,rfl⟩:=Qj hrd
   have hbo:∀ o,wr.cell? ⟨b,o,none⟩=w.cell? ⟨b,o,none⟩:=fun o=>(hb.cell (p:=⟨b,o,none⟩) (by simp;omega)).trans (World.cell?_alloc_lt _ _ _ hbB)
   have e0:wr.cell? ⟨b,off+k*3,none⟩=some (.string key):=(hbo _).trans (hu 0 _ rfl)
   have e1:wr.cell? ⟨b,off+k*3+1,none⟩=some (.slice A3 t.es.length n3):=(hbo _).trans (hu 1 _ rfl)
   have e2:wr.cell? ⟨b,off+k*3+2,none⟩=some (.slice A4 t.ks.length n4):=(hbo _).trans (hu 2 _ rfl)
   have hmem:(key,t)∈ks:=List.mem_of_getElem? hx
   have hB0:Below w.heap.size w wr:=((Below.refl _ w).alloc (Nat.le_refl _) _).trans (hb.mono (by omega))
   have HR:Hid (∀ o,t.rd (wr.alloc o) (wr.alloc o).heap.size (.slice A3 t.es.length n3) (.slice A4 t.ks.length n4)):=fun o=>Qi (hB0.alloc (by omega) _) (by simp;omega) _ _ _ hrd
   have HX:=hid (qQc hx)
   have hdt:t.dep<=1000:=by have:=qZq hmem;omega
   clear hu hbo hx hc c3 hrd
   go_wp2_with (go_at_call 175;go_loud (refine (ih key t hmem _ _ _ (HR.out _) hdt).mono ?_);rintro e w2 ⟨rfl,hb2⟩;have hs2:=hb2.size;simp only[World.size_alloc]at hs2)
   go_roundw
   case rel=>
    refine⟨k+1,by omega,by go_num,by (rw[HX.out,←zXi]);try (congr 1;first|omega|(split<;>omega)),(hb.alloc (by omega) _).trans (hb2.mono (by simp;omega))⟩
   case measure=>simp[intOf];omega
  ·obtain rfl:k=ks.length:=by omega
   rw[List.take_of_length_le (Nat.le_refl _)]at hdk ⊢
   go_wp2_with fail
   go_ret
   exact⟨by rw[Tr.dep];go_num,((Below.refl _ w).alloc (Nat.le_refl _) _).trans (hb.mono (by omega))⟩
mutual
theorem room_sz:∀ (t:Tr) (left deep:Int),0<=t.room left deep->(t.sz:Int)+t.room left deep<=left
 |.mk es ks,left,deep,h=>by
  rw[Tr.room]at h ⊢
  have:=roomL_sz ks _ deep h
  rw[Tr.sz]
  push_cast
  omega
theorem roomL_sz:∀ (ks:List (ByteArray×Tr)) (left deep:Int),0<=Tr.roomL ks left deep->(Tr.szL ks:Int)-ks.length+Tr.roomL ks left deep<=left
 |[],left,deep,h=>by rw[Tr.roomL]at h ⊢;simp[Tr.szL]
 |(k,t) :: ks,left,deep,h=>by
  rw[Tr.roomL]at h ⊢
  split at h
  ·omega
  ·rename_i hc
   rw[if_neg hc]
   have h1:=roomL_sz ks _ deep h
   have hs:=JG ks
   by_cases h2:0<=t.room left (deep-1)
   ·have h3:=room_sz t left (deep-1) h2
    rw[Tr.szL];simp only[List.length_cons];push_cast;omega
   ·omega
end
def smlB (t:Tr)(n:Int):Bool:=decide (0<=t.room n 8)
theorem zYt {t:Tr}{n:Int}(h:smlB t n=true):(t.sz:Int)<=n:=by
 have h:=of_decide_eq_true h
 have:=room_sz t n 8 h
 omega
def sumE (es:List En):Int:=es.foldl (fun s e=>wrap64 (s+e.v)) 0
theorem qWs {es:List En}{k:Nat}{x:En}(h:es[k]?=some x):sumE (es.take (k+1))=wrap64 (sumE (es.take k)+x.v):=by
 unfold sumE;rw[List.take_add_one,h,List.foldl_append];rfl
def valT (t:Tr):Int:=if t.right 5 then sumE t.es else 0
theorem qKd (t:Tr)(w:World)(ve vk:Value)(h:t.rd w w.heap.size ve vk) :
  Calls Tryz.prog 87 #[.agg #[ve,vk]] w fun e w'=>e=.returned (.int .i64 (valT t))/\Below w.heap.size w w':=by
 have HC:Hid (∀ w',Below w.heap.size w w'->t.rd w' w'.heap.size ve vk):=fun w' hb=>Qi hb hb.size _ _ _ h
 obtain⟨es,ks⟩:=t
 rw[QA]at h
 obtain⟨⟨A0,n0,rfl,d1,d2,d3⟩,⟨A,m,rfl,_,_,_⟩⟩:=h
 unfold Big at d2
 have hb0:Below w.heap.size w (w.alloc (.cells #[.slice A0 es.length n0,.slice A ks.length m] 25)):=(Below.refl _ w).alloc (Nat.le_refl _) _
 go_enter Tryz.func87,Tryz.ntmps87
 go_wp2_with fail
 refine (QG (.mk es ks) _ _ _ (HC.out _ hb0)).mono ?_
 rintro e w1 ⟨rfl,hb1⟩
 have hs1:=hb1.size
 simp only[World.size_alloc]at hs1
 have hB1:Below w.heap.size w w1:=hb0.trans (hb1.mono (by simp))
 have c0:w1.cell? ⟨w.heap.size,0,none⟩=some (.slice A0 es.length n0):=by rw[hb1.cell (p:=⟨w.heap.size,0,none⟩) (by simp)];simp
 cases hr:Tr.right (.mk es ks) 5
 ·have HR:Hid (valT (.mk es ks)=0):=by unfold Hid valT;rw[hr];rfl
  clear hr hb1 hb0 d3
  go_wp2_with fail
  go_ret
  exact⟨Qn HR.out.symm,hB1⟩
 ·have HR:Hid (valT (.mk es ks)=sumE es):=by unfold Hid valT;rw[hr];rfl
  clear hr hb1 hb0
  go_wp2_with fail
  go_loopw [3,11] (fun s i wr=>∃ k:Nat,k<=es.length/\i=.int .i64 k/\s=.int .i64 (sumE (es.take k))/\Below w.heap.size w wr) (fun _ i _=>es.length-(intOf i).toNat)
  case atStart=>exact⟨0,Nat.zero_le _,rfl,rfl,hB1⟩
  case round=>
   obtain⟨k,hk,rfl,rfl,hb⟩:=hrel
   have hsz:=hb.size
   by_cases hlt:k<es.length
   ·obtain⟨x,hx⟩:∃ x,es[k]?=some x:=⟨_,List.getElem?_eq_getElem hlt⟩
    obtain⟨b,off,rfl,hbB,hc⟩:=d3 (by rintro rfl;simp at hlt)
    obtain⟨cs,⟨rfl,hok⟩,_,hu⟩:=hc k _ hx
    have e0:wr.cell? ⟨b,off+k*4,none⟩=some (.int .i64 x.dc):=(hb.cell hbB).trans (hu 0 _ rfl)
    have e1:wr.cell? ⟨b,off+k*4+1,none⟩=some (.int .i64 x.n):=(hb.cell hbB).trans (hu 1 _ rfl)
    have e2:wr.cell? ⟨b,off+k*4+2,none⟩=some (.string x.s):=(hb.cell hbB).trans (hu 2 _ rfl)
    have e3:wr.cell? ⟨b,off+k*4+3,none⟩=some (.int .i64 x.v):=(hb.cell hbB).trans (hu 3 _ rfl)
    have HX:Hid (sumE (es.take (k+1))=wrap64 (sumE (es.take k)+x.v)):=qWs hx
    generalize sumE (es.take k)=s at *
    clear hu hc d3 hx hok
    go_wp2_with fail
    go_roundw
    case rel=>exact⟨k+1,by omega,by go_num,by rw[HX.out]<;>rfl,hb.alloc hsz _⟩
    case measure=>simp[intOf];omega
   ·obtain rfl:k=es.length:=by omega
    rw[List.take_of_length_le (Nat.le_refl _)]
    go_wp2_with fail
    go_ret
    exact⟨Qn HR.out.symm,hb⟩
def XU (md:Region.Mode)(ops':Array Oper)(listed:Array Bool):Prop:=∀ (i:Nat) (x:Oper),ops'[i]?=some x->listed.getD i false=true->∀ e∈x.after,Region.binds md e=true->listed.getD e.on false=true
theorem zZf {l:Array Bool}{i j:Nat}(h:l.getD j false=true):(l.setIfInBounds i true).getD j false=true:=by
 simp only[Array.getD_eq_getD_getElem?,Array.getElem?_setIfInBounds]at h ⊢
 split
 ·split
  ·rfl
  ·rename_i h1 h2
   subst h1
   rw[Array.getElem?_eq_none (by omega)]at h;simp at h
 ·exact h
theorem XU.step {md:Region.Mode}{ops':Array Oper}{listed:Array Bool}(h:XU md ops' listed)(_:listed.size=ops'.size){i:Nat}(hi:i∈Region.ready md ops' listed):XU md ops' (listed.setIfInBounds i true):=by
 intro j x hx hl e he hb
 obtain⟨_,y,hy,h2⟩:=mem_ready.1 hi
 refine zZf ?_
 by_cases hij:i=j
 ·subst hij
  rw[hx]at hy;cases hy
  exact h2 e he hb
 ·refine h j x hx ?_ e he hb
  simp only[Array.getD_eq_getD_getElem?,Array.getElem?_setIfInBounds,if_neg hij]at hl ⊢
  exact hl
theorem XU.none {md:Region.Mode}{ops':Array Oper}(n:Nat):XU md ops' (List.replicate n false).toArray:=by
 intro j x _ hl
 exfalso
 rw[Array.getD_eq_getD_getElem?]at hl
 simp only[List.getElem?_toArray,List.getElem?_replicate]at hl
 split at hl<;>simp at hl
theorem Xg {md:Region.Mode}{ops':Array Oper}(hord:∀ (j:Nat) (x:Oper),ops'[j]?=some x->∀ e∈x.after,Region.binds md e=true->e.on<j){listed:Array Bool}(hs:listed.size=ops'.size)(hr:Region.ready md ops' listed=[]):∀ j,j<ops'.size->listed.getD j false=true:=by
 intro j
 induction j using Nat.strongRecOn with
 |ind j ih=>
  intro hj
  cases hl:listed.getD j false with
  |true=>rfl
  |false=>
   have hx:ops'[j]?=some ops'[j]:=Array.getElem?_eq_getElem hj
   have:j∈Region.ready md ops' listed:=mem_ready.2 ⟨by simp[Array.getElem?_eq_getElem (hs▸hj:j<listed.size)]at hl ⊢;exact hl,_,hx,fun e he hb=>ih e.on (hord j _ hx e he hb) (Nat.lt_trans (hord j _ hx e he hb) hj)⟩
   rw[hr]at this;cases this
section
variable {P:Program}{Q:Exit->Act->World->Prop}{md:Region.Mode}{ops':Array Oper}{o:Oper}
theorem qKm (hg:∀ (j:Nat) (x:Oper),ops'[j]?=some x->x.guard=none)(hord:∀ (j:Nat) (x:Oper),ops'[j]?=some x->∀ e∈x.after,Region.binds md e=true->e.on<j)(hlast:∀ j,j<ops'.size->(∃ e∈o.after,Region.binds md e=true/\e.on=j)∨∃ k x,ops'[k]?=some x/\(∃ e∈o.after,Region.binds md e=true/\e.on=k)/\∃ e∈x.after,Region.binds md e=true/\e.on=j)(hon:∀ e∈o.after,e.on<ops'.size)(hgo:o.guard=none) :
  ∀ (fuel:Nat) (listed:Array Bool) (a:Act) (w:World),listed.size=ops'.size->XU md ops' listed->wpAny P md ops' (PopQ Q (wpList P (ops'.push o) Q [o])) fuel listed a w->wpAny P md (ops'.push o) Q (fuel+1) (listed.push false) a w:=by
 have hin:∀ (listed:Array Bool),listed.size=ops'.size->XU md ops' listed->∀ i,i∈Region.ready md (ops'.push o) (listed.push false)->(i<ops'.size/\i∈Region.ready md ops' listed)∨(i=ops'.size/\Region.ready md ops' listed=[]):=by
  intro listed hs hdc i hi
  obtain⟨h1,x,hx,h2⟩:=mem_ready.1 hi
  have hlt:i<ops'.size+1:=by have:=(Array.getElem?_eq_some_iff.1 hx).1;simpa using this
  by_cases he:i<ops'.size
  ·refine .inl ⟨he,mem_ready.2 ⟨?_,x,?_,fun e hee hb=>?_⟩⟩
   ·simp only[Array.getD_eq_getD_getElem?,Array.getElem?_push,if_neg (show ¬i=listed.size by omega)]at h1 ⊢;exact h1
   ·rw[Array.getElem?_push,if_neg (by omega)]at hx;exact hx
   ·have hx2:ops'[i]?=some x:=by rw[Array.getElem?_push,if_neg (by omega)]at hx;exact hx
    have h3:=h2 e hee hb
    have h4:=hord i x hx2 e hee hb
    simp only[Array.getD_eq_getD_getElem?,Array.getElem?_push,if_neg (show ¬e.on=listed.size by omega)]at h3 ⊢;exact h3
  ·obtain rfl:i=ops'.size:=by omega
   refine .inr ⟨rfl,?_⟩
   have hxo:x=o:=by rw[Array.getElem?_push,if_pos rfl]at hx;exact (Option.some.inj hx).symm
   subst hxo
   rw[List.eq_nil_iff_forall_not_mem]
   intro j hj
   obtain⟨g1,y,hy,_⟩:=mem_ready.1 hj
   have hj':=(Array.getElem?_eq_some_iff.1 hy).1
   have hn:∀ k,k<ops'.size->(∃ e∈x.after,Region.binds md e=true/\e.on=k)->listed.getD k false=true:=fun k hk ⟨e,he1,he2,he3⟩=>by
    have h3:=h2 e he1 he2
    rw[he3]at h3
    simp only[Array.getD_eq_getD_getElem?,Array.getElem?_push,if_neg (show ¬k=listed.size by omega)]at h3 ⊢
    exact h3
   have hl:listed.getD j false=true:=by
    rcases hlast j hj' with h|⟨k,y',hy',h,e,he1,he2,he3⟩
    ·exact hn j hj' h
    ·have hk:=(Array.getElem?_eq_some_iff.1 hy').1
     have:=hdc k y' hy' (hn k hk h) e he1 he2
     rw[he3]at this;exact this
   simp only[Array.getD_eq_getD_getElem?]at hl g1
   rw[Array.getElem?_eq_getElem (show j<listed.size by omega)]at hl g1
   simp at hl g1;rw[hl]at g1;cases g1
 have hfin:∀ (listed:Array Bool),listed.size=ops'.size->Region.ready md ops' listed=[]->Region.ready md (ops'.push o) ((listed.push false).setIfInBounds ops'.size true)=[]:=by
  intro listed hs hr
  rw[List.eq_nil_iff_forall_not_mem]
  intro j hj
  obtain⟨g1,y,hy,_⟩:=mem_ready.1 hj
  have hj':j<ops'.size+1:=by have:=(Array.getElem?_eq_some_iff.1 hy).1;simpa using this
  by_cases he:j<ops'.size
  ·have:=Xg hord hs hr j he
   simp only[Array.getD_eq_getD_getElem?,Array.getElem?_setIfInBounds,Array.getElem?_push,if_neg (show ¬ops'.size=j by omega),if_neg (show ¬j=listed.size by omega)]at g1 this
   rw[Array.getElem?_eq_getElem (show j<listed.size by omega)]at g1 this
   simp at g1 this;rw[this]at g1;cases g1
  ·obtain rfl:j=ops'.size:=by omega
   simp[hs]at g1
 have hstep:∀ (fuel:Nat) (listed:Array Bool) (a:Act) (w:World),listed.size=ops'.size->Region.ready md ops' listed=[]->wpList P (ops'.push o) Q [o] a w->wpOp P (ops'.push o) Q ops'.size (wpAny P md (ops'.push o) Q fuel ((listed.push false).setIfInBounds ops'.size true)) a w:=by
  intro fuel listed a w hs hr h
  unfold wpOp
  rw[Array.getElem?_push,if_pos rfl]
  have hw:Region.wanted o (yielded (ops'.push o) a.tmps)=true:=by simp[Region.wanted,hgo]
  unfold wpList at h
  simp only[hw,if_true]at *
  have hK:∀ a w,wpList P (ops'.push o) Q [] a w->wpAny P md (ops'.push o) Q fuel ((listed.push false).setIfInBounds ops'.size true) a w:=fun a w hq=>by
   have:=hfin listed hs hr
   cases fuel with
   |zero=>exact⟨this,hq⟩
   |succ fuel=>exact⟨fun _=>hq,by rw[this];simp⟩
  rcases h with h|h
  ·exact .inl (Oper.wp_mono hK h)
  ·exact .inr h
 intro fuel
 induction fuel with
 |zero=>
  intro listed a w hs hdc h
  obtain⟨h1,h2⟩:=h
  refine⟨fun h0=>?_,fun i hi=>?_⟩
  ·exfalso
   have:ops'.size∈Region.ready md (ops'.push o) (listed.push false):=mem_ready.2 ⟨by simp[←hs],o,by simp,fun e he _=>by
    have:=Xg hord hs h1 e.on (hon e he)
    simp only[Array.getD_eq_getD_getElem?,Array.getElem?_push,if_neg (show ¬e.on=listed.size by have:=hon e he;omega)]at this ⊢;exact this⟩
   rw[h0]at this;cases this
  ·rcases hin listed hs hdc i hi with⟨_,h3⟩|⟨rfl,_⟩
   ·rw[h1]at h3;cases h3
   ·exact hstep 0 listed a w hs h1 h2
 |succ fuel ih=>
  intro listed a w hs hdc h
  obtain⟨h1,h2⟩:=h
  refine⟨fun h0=>?_,fun i hi=>?_⟩
  ·exfalso
   by_cases hr:Region.ready md ops' listed=[]
   ·have:ops'.size∈Region.ready md (ops'.push o) (listed.push false):=mem_ready.2 ⟨by simp[←hs],o,by simp,fun e he _=>by
     have:=Xg hord hs hr e.on (hon e he)
     simp only[Array.getD_eq_getD_getElem?,Array.getElem?_push,if_neg (show ¬e.on=listed.size by have:=hon e he;omega)]at this ⊢;exact this⟩
    rw[h0]at this;cases this
   ·obtain⟨i,hi⟩:=List.exists_mem_of_ne_nil _ hr
    obtain⟨g1,x,hx,g2⟩:=mem_ready.1 hi
    have hlt:=(Array.getElem?_eq_some_iff.1 hx).1
    have:i∈Region.ready md (ops'.push o) (listed.push false):=mem_ready.2 ⟨by
     simp only[Array.getD_eq_getD_getElem?,Array.getElem?_push,if_neg (show ¬i=listed.size by omega)]at g1 ⊢;exact g1,x,by rw[Array.getElem?_push,if_neg (by omega)];exact hx,fun e he hb=>by
     have h3:=g2 e he hb
     have h4:=hord i x hx e he hb
     simp only[Array.getD_eq_getD_getElem?,Array.getElem?_push,if_neg (show ¬e.on=listed.size by omega)]at h3 ⊢;exact h3⟩
    rw[h0]at this;cases this
  ·rcases hin listed hs hdc i hi with⟨hlt,h3⟩|⟨rfl,hr⟩
   ·refine qX4 hg hlt (fun a w hk=>?_) (h2 i h3)
    have:=ih (listed.setIfInBounds i true) a w (by simpa using hs) (hdc.step hs h3) hk
    rw[show (listed.push false).setIfInBounds i true=(listed.setIfInBounds i true).push false from ?_]
    ·exact this
    ·apply Array.ext_getElem?
     intro j
     simp only[Array.getElem?_setIfInBounds,Array.getElem?_push,Array.size_setIfInBounds,Array.size_push]
     by_cases e1:i=j
     ·subst e1
      simp[show i<listed.size by omega,show ¬i=listed.size by omega,show i<listed.size+1 by omega]
     ·simp[e1]
   ·exact hstep (fuel+1) listed a w hs hr (h1 hr)
end
section
variable {P:Program}{Q:Exit->Act->World->Prop}
def qUp (ops':List Oper)(o:Oper)(j:Nat):Bool:=
 (o.after.any fun e=>Region.binds .any e&&(e.on==j))||(List.range ops'.length).any fun k=>(o.after.any fun e=>Region.binds .any e&&(e.on==k))&&match ops'[k]? with | some x=>x.after.any fun e=>Region.binds .any e&&(e.on==j) | none=>false
def popTB (ops':List Oper)(o:Oper):Bool:=
 ops'.all (fun x=>x.guard.isNone)&&o.guard.isNone&&((List.range ops'.length).all fun j=>match ops'[j]? with | some x=>x.after.all fun e=>!Region.binds .any e||decide (e.on<j) | none=>true) &&
  ((List.range ops'.length).all fun j=>qUp ops' o j)&&(o.after.all fun e=>decide (e.on<ops'.length))
theorem qUq {ops':List Oper}{o:Oper}{j:Nat}(h:qUp ops' o j=true):(∃ e∈o.after,Region.binds .any e=true/\e.on=j)∨∃ k x,ops'.toArray[k]?=some x/\(∃ e∈o.after,Region.binds .any e=true/\e.on=k)/\∃ e∈x.after,Region.binds .any e=true/\e.on=j:=by
 have ha:∀ (y:Oper) (k:Nat),(y.after.any fun e=>Region.binds .any e&&(e.on==k))=true->∃ e∈y.after,Region.binds .any e=true/\e.on=k:=fun y k h=>by
  simp only[Array.any_eq_true',Bool.and_eq_true,beq_iff_eq]at h
  exact h
 unfold qUp at h
 rw[Bool.or_eq_true]at h
 rcases h with h|h
 ·exact .inl (ha o j h)
 ·rw[List.any_eq_true]at h
  obtain⟨k,_,hk⟩:=h
  rw[Bool.and_eq_true]at hk
  obtain⟨h1,h2⟩:=hk
  split at h2
  ·rename_i x hx
   exact .inr ⟨k,x,by simpa using hx,ha o k h1,ha x j h2⟩
  ·cases h2
theorem qKn {ops':List Oper}{o:Oper}(hc:popTB ops' o=true){fuel:Nat}{listed:Array Bool}{a:Act}{w:World}(hs:listed.size=ops'.length)(hd:XU .any ops'.toArray listed)
  (h:wpAny P .any ops'.toArray (PopQ Q (wpList P (ops'++[o]).toArray Q [o])) fuel listed a w):wpAny P .any (ops'++[o]).toArray Q (fuel+1) (listed.push false) a w:=by
 unfold popTB at hc
 simp only[Bool.and_eq_true,List.all_eq_true,List.mem_range,Array.all_eq_true_iff_forall_mem,decide_eq_true_eq,Option.isNone_iff_eq_none]at hc
 obtain⟨⟨⟨⟨c1,c2⟩,c3⟩,c4⟩,c5⟩:=hc
 have ho':(ops'++[o]).toArray=ops'.toArray.push o:=by simp
 rw[ho']at h ⊢
 exact qKm (md:=.any) (ops':=ops'.toArray) (o:=o) (P:=P) (Q:=Q) (fun j x hx=>c1 x (by simpa using List.mem_of_getElem? (by simpa using hx)))
  (fun j x hx e he hb=>by
   have hx':ops'[j]?=some x:=by simpa using hx
   have:=c3 j (List.getElem?_eq_some_iff.1 hx').1
   rw[hx']at this
   simp only[Array.all_eq_true_iff_forall_mem,decide_eq_true_eq,Bool.or_eq_true,Bool.not_eq_true']at this
   rcases this e he with h|h
   ·rw[hb]at h;cases h
   ·exact h)
  (fun j hj=>qUq (c4 j (by simpa using hj)))
  (fun e he=>by simpa using c5 e he) c2 fuel listed a w (by simpa using hs) hd h
def pop2L (n:Nat)(l:List Oper):Bool:=match l.drop n with|[o1,o2]=>((l.take n).length==n)&&popTB (l.take n) o1&&popTB (l.take n++[o1]) o2|_=>false
def pop1L (n:Nat)(l:List Oper):Bool:=match l.drop n with|[o]=>((l.take n).length==n)&&popTB (l.take n) o|_=>false
theorem Yw {S:World->Prop}{id:Nat}(n:Nat){l:List Oper}{a:Act}{w:World}(hm:P.follows .mixedOrders=true)(hc:pop1L n l=true)
  (h:wpAnyH P .any (l.take n).toArray (PopQ Q (wpList P l.toArray Q (l.drop n))) S n (List.replicate n false).toArray a w.drew):(Code.region id l.toArray true).wp P Q a w:=by
 unfold pop1L at hc
 split at hc
 ·rename_i o ho
  simp only[Bool.and_eq_true,beq_iff_eq]at hc
  obtain⟨hn,hc1⟩:=hc
  have e1:l=l.take n++[o]:=by rw[←ho,List.take_append_drop]
  rw[ho]at h
  refine wp_region_any hm ?_
  have h2:wpAny P .any (l.take n++[o]).toArray Q (n+1) ((List.replicate n false).toArray.push false) a w.drew:=by
   refine qKn hc1 (by simp[hn]) (XU.none _) ?_
   rw[←e1]
   exact wpAny_of_held _ _ _ _ h
  have e6:l.toArray.size=n+1:=by rw[e1];simp[hn]
  have e7:Array.replicate l.toArray.size false=(List.replicate n false).toArray.push false:=by
   apply Array.ext'
   rw[e6];simp[List.replicate_succ']
  rw[e7,e6]
  rw[←e1]at h2
  exact h2
 ·cases hc
end
theorem qKs:Tryz.prog.eqGuardType Tryz.prog.depth 45=false:=by kernel_rfl
theorem qJe:Tryz.prog.eqGuardType Tryz.prog.depth 80=false:=by kernel_rfl
theorem qU8:Tryz.prog.eqGuardType Tryz.prog.depth 78=false:=by kernel_rfl
theorem zZ6 (x y:Sp)(w:World):(binOp .neq 45 (.agg #[.int .i64 x.dc,.int .i64 x.fr,.int .i64 x.hi]) (.agg #[.int .i64 y.dc,.int .i64 y.fr,.int .i64 y.hi])).run Tryz.prog w=.ok (.bool (!decide (x=y))) w:=by
 have u3:=Tryz.underlying3
 have u2:=Tryz.underlying2
 have hS:Tryz.prog.underlying 45=some (.struct (Tryz.prog.fieldsOf 45)):=by kernel_rfl
 have hp:Tryz.prog.stoodInHeld 45=false:=by kernel_rfl
 rw[run_neq_struct,show (10000:Nat)=9999+1 from rfl,run_equalIn_agg w 9999 45 _ _ hS hp]
 simp only[Program.fieldsOf,Tryz.underlying45]
 go_simp
 obtain⟨a,b,c⟩:=x;obtain⟨d,e,f⟩:=y
 by_cases h1:a=d<;>by_cases h2:b=e<;>by_cases h3:c=f<;>simp[h1,h2,h3]
theorem QM (a b:ByteArray):a.toList=b.toList↔a=b:=by
 rw[ByteArray.toList_eq,ByteArray.toList_eq]
 obtain⟨⟨x⟩⟩:=a;obtain⟨⟨y⟩⟩:=b
 simp
theorem qU9 (x y:En)(w:World):(binOp .neq 80 (.agg #[.int .i64 x.dc,.int .i64 x.n,.string x.s,.int .i64 x.v]) (.agg #[.int .i64 y.dc,.int .i64 y.n,.string y.s,.int .i64 y.v])).run Tryz.prog w=.ok (.bool (!decide (x=y))) w:=by
 have u3:=Tryz.underlying3
 have u2:=Tryz.underlying2
 have u9:=Tryz.underlying9
 have u27:=Tryz.underlying78
 have hS:Tryz.prog.underlying 80=some (.struct (Tryz.prog.fieldsOf 80)):=by kernel_rfl
 have hp:Tryz.prog.stoodInHeld 80=false:=by kernel_rfl
 have hS2:Tryz.prog.underlying 78=some (.struct (Tryz.prog.fieldsOf 78)):=by kernel_rfl
 have hp2:Tryz.prog.stoodInHeld 78=false:=by kernel_rfl
 rw[run_neq_struct,show (10000:Nat)=9999+1 from rfl,run_equalIn_agg w 9999 80 _ _ hS hp]
 simp only[Program.fieldsOf,Tryz.underlying80]
 go_simp
 have hq:=fun (a b c d:Int) (w:World)=>run_equalIn_agg (P:=Tryz.prog) w 9998 78 #[.int .i64 a,.int .i64 b] #[.int .i64 c,.int .i64 d] hS2 hp2
 try simp only[hq,Program.fieldsOf,u27]
 go_simp
 obtain⟨a,b,s,c⟩:=x;obtain⟨d,e,u,f⟩:=y
 by_cases h1:a=d<;>by_cases h2:b=e<;>by_cases h3:c=f<;>by_cases h4:s=u<;>simp[h1,h2,h3,h4,QM]
theorem ZY {α:Type}{xs ys:List α}{k:Nat}{x y:α}(hx:xs[k]?=some x)(hy:ys[k]?=some y)(h:xs.take k=ys.take k):xs.take (k+1)=ys.take (k+1)↔x=y:=by
 rw[List.take_add_one,List.take_add_one,hx,hy,h]
 simp
theorem qZd (a b:List Sp)(va vb:Value)(w:World)(B:Nat)(ha:SlP w B 3 SpE va a)(hb:SlP w B 3 SpE vb b) :
  Calls Tryz.prog 40 #[va,vb] w fun e w'=>e=.returned (.bool (decide (a=b)))/\∃ n,w'=w.drewN n:=by
 obtain⟨A1,n1,rfl,b1,b2,b3⟩:=ha
 obtain⟨A2,n2,rfl,c1,c2,c3⟩:=hb
 unfold Big at b2 c2
 by_cases hl:a.length=b.length
 ·have hl':((a.length:Int) != (b.length:Int))=false:=by simp[hl]
  have HL:=hid hl
  clear hl
  have gg:=qKs
  have nn:=zZ6
  go_enter Tryz.func40,Tryz.ntmps40
  go_wp2_with fail
  go_loopw [13] (fun i wr=>∃ k:Nat,k<=a.length/\i=.int .i64 k/\Hid (a.take k=b.take k)/\∃ n,wr=w.drewN n) (fun i _=>a.length-(intOf i).toNat)
  case atStart=>exact⟨0,Nat.zero_le _,rfl,rfl,0,rfl⟩
  case round=>
   obtain⟨k,hk,rfl,hrel,q,rfl⟩:=hrel
   by_cases hlt:k<a.length
   ·have hlt2:k<b.length:=by have:=HL.out;omega
    obtain⟨x,hx⟩:∃ x,a[k]?=some x:=⟨_,List.getElem?_eq_getElem hlt⟩
    obtain⟨y,hy⟩:∃ y,b[k]?=some y:=⟨_,List.getElem?_eq_getElem hlt2⟩
    obtain⟨ba,oa,rfl,hbA,hc⟩:=b3 (by rintro rfl;simp at hlt)
    obtain⟨bb,ob,rfl,hbB,hd⟩:=c3 (by rintro rfl;simp at hlt2)
    obtain⟨cs,⟨rfl,hok⟩,_,hu⟩:=hc k _ hx
    obtain⟨ds,⟨rfl,hok2⟩,_,hv⟩:=hd k _ hy
    have e0:w.cell? ⟨ba,oa+k*3,none⟩=some (.int .i64 x.dc):=hu 0 _ rfl
    have e1:w.cell? ⟨ba,oa+k*3+1,none⟩=some (.int .i64 x.fr):=hu 1 _ rfl
    have e2:w.cell? ⟨ba,oa+k*3+2,none⟩=some (.int .i64 x.hi):=hu 2 _ rfl
    have g0:w.cell? ⟨bb,ob+k*3,none⟩=some (.int .i64 y.dc):=hv 0 _ rfl
    have g1:w.cell? ⟨bb,ob+k*3+1,none⟩=some (.int .i64 y.fr):=hv 1 _ rfl
    have g2:w.cell? ⟨bb,ob+k*3+2,none⟩=some (.int .i64 y.hi):=hv 2 _ rfl
    have HT:=hid (ZY hx hy hrel.out)
    have HXY:Hid (a=b->x=y):=fun e=>by subst e;rw[hx]at hy;exact Option.some.inj hy
    have hi1:((k:Int))<(a.length:Int):=by omega
    have hi2:((k:Int))<(b.length:Int):=by omega
    clear hu hv hc hd b3 c3 hx hy hok hok2
    rcases hxy:decide (x=y)
    ·have hne:x≠y:=by simpa using hxy
     go_wp2_with fail
     go_quiet (fail)
     go_wp2_with fail
     go_ret
     exact⟨Qf (by simpa using fun e=>hne (HXY.out e)),q+nq,by first|rfl|exact World.drewN_drewN _ _ _⟩
    ·have hE:=hid (of_decide_eq_true hxy)
     go_wp2_with fail
     go_quiet (fail)
     go_wp2_with fail
     go_roundw
     case rel=>exact⟨k+1,by omega,by go_num,HT.out.2 hE.out,q+nq,by first|rfl|exact World.drewN_drewN _ _ _⟩
     case measure=>simp[intOf];omega
   ·obtain rfl:k=a.length:=by omega
    have HR:=hid hrel.out
    clear hrel
    go_wp2_with fail
    go_ret
    refine⟨Qf ?_,q,rfl⟩
    have h1:=HR.out
    rw[List.take_of_length_le (Nat.le_refl _),List.take_of_length_le (by rw[HL.out];exact Nat.le_refl _)]at h1
    simp[h1]
 ·have hl':((a.length:Int) != (b.length:Int))=true:=by simp;omega
  have HL:=hid hl
  clear hl
  go_enter Tryz.func40,Tryz.ntmps40
  go_wp2_with fail
  go_ret
  refine⟨Qf ?_,0,rfl⟩
  have:a≠b:=fun e=>HL.out (by rw[e])
  simp[this]
def Yd (key:ByteArray)(x:Lf):Option Lf:=match x.1 with|[]=>none|q :: qs=>if q=key then some (qs,x.2) else none
def Qt (l:List Lf)(key:ByteArray):List Lf:=l.filterMap (Yd key)
theorem qZe {l:List Lf}{k:Nat}{x:Lf}(h:l[k]?=some x)(key:ByteArray):Qt (l.take (k+1)) key=Qt (l.take k) key++(Yd key x).toList:=by
 unfold Qt
 rw[List.take_add_one,h,List.filterMap_append]
 cases hx:Yd key x<;>simp[hx]
theorem Ye (l:List Lf)(key:ByteArray):(Qt l key).length<=l.length:=List.length_filterMap_le _ _
theorem Jp (l:List Lf)(key:ByteArray)(okp:Nat->Prop)(vl:Value)(w:World)(h:SlP w w.heap.size 5 (LfA w (fun b=>okp b/\b<w.heap.size)) vl l)(hN:l.length<=900000) :
  Calls Tryz.prog 81 #[vl,.string key] w (RetD w 91 5 LfA okp (Qt l key)):=by
 obtain⟨A,c,rfl,l1,l2,l3⟩:=h
 unfold Big at l2
 go_enter Tryz.func81,Tryz.ntmps81
 go_wp2_with fail
 go_loopw [5,9] (fun v i wr=>∃ k:Nat,k<=l.length/\i=.int .i64 k/\OwnD wr w.heap.size 91 5 LfA (fun b=>okp b∨w.heap.size<=b) v (Qt (l.take k) key)/\Below w.heap.size w wr) (fun _ i _=>l.length-(intOf i).toNat)
 case atStart=>exact⟨0,Nat.zero_le _,rfl,OwnD.nil,Below.refl _ _⟩
 case round=>
  obtain⟨k,hk,rfl,hown,hb⟩:=hrel
  have hsz:=hb.size
  by_cases hlt:k<l.length
  ·obtain⟨⟨p,x⟩,hx⟩:∃ x,l[k]?=some x:=⟨_,List.getElem?_eq_getElem hlt⟩
   obtain⟨b,off,rfl,hbB,hc⟩:=l3 (by rintro rfl;simp at hlt)
   obtain⟨cs,⟨A7,c7,rfl,hp,hok⟩,_,hu⟩:=hc k _ hx
   have hut:=qZe hx key
   have e0:wr.cell? ⟨b,off+k*5,none⟩=some (.slice A7 p.length c7):=(hb.cell hbB).trans (hu 0 _ rfl)
   have hlen:=Ye (l.take k) key
   have HLe:Hid ((Qt (l.take k) key).length<=900000):=by unfold Hid;simp at hlen;omega
   clear hlen
   cases p with
   |nil=>
    have HX:Hid (Qt (l.take (k+1)) key=Qt (l.take k) key):=by unfold Hid;rw[hut];simp[Yd]
    simp only[List.length_nil]at e0
    clear hu hx hc l3 hok hp hut
    go_wp2_with fail
    go_roundw
    case rel=>exact⟨k+1,by omega,by go_num,by rw[HX.out];exact hown,hb⟩
    case measure=>simp[intOf];omega
   |cons q qs=>
    obtain⟨A7',c7',hv7,m1,m2,m3⟩:=hp
    simp only[Value.slice.injEq]at hv7
    obtain⟨rfl,_,rfl⟩:=hv7
    obtain⟨b7,o7,rfl,hb7,hc7⟩:=m3 (by simp)
    unfold Big at m2
    simp only[List.length_cons]at e0 m1 m2
    have hb7':b7<wr.heap.size:=by have:=hb7.2;omega
    obtain⟨cs7,⟨rfl,hq7⟩,_,hu7⟩:=hc7 0 q rfl
    have e7:wr.cell? ⟨b7,o7,none⟩=some (.string q):=(hb.cell (p:=⟨b7,o7,none⟩) hb7.2).trans (by simpa using hu7 0 _ rfl)
    have e1:wr.cell? ⟨b,off+k*5+1,none⟩=some (.int .i64 x.dc):=(hb.cell hbB).trans (hu 1 _ rfl)
    have e2:wr.cell? ⟨b,off+k*5+2,none⟩=some (.int .i64 x.n):=(hb.cell hbB).trans (hu 2 _ rfl)
    have e3:wr.cell? ⟨b,off+k*5+3,none⟩=some (.string x.s):=(hb.cell hbB).trans (hu 3 _ rfl)
    have e4:wr.cell? ⟨b,off+k*5+4,none⟩=some (.int .i64 x.v):=(hb.cell hbB).trans (hu 4 _ rfl)
    by_cases h71:c7=1
    ·subst h71
     obtain rfl:qs=[]:=List.eq_nil_of_length_eq_zero (by omega)
     simp only[List.length_nil,Nat.zero_add]at e0 m1 m2
     by_cases hqk:q=key
     ·have hqk':(q.toList==key.toList)=true:=by rw[hqk];simp
      have HX:Hid (Qt (l.take (k+1)) key=Qt (l.take k) key++[(([]:List ByteArray),x)]):=by unfold Hid;rw[hut];simp[Yd,hqk]
      have HL:Hid ((Qt (l.take k) key).length + [(([]:List ByteArray),x)].length<=Few):=by have:=HLe.out;unfold Hid Few;simp;omega
      have HS:Hid (∀ w',Below w.heap.size wr w'->w'.cell? ⟨b,off+k*5,none⟩=some (.slice (some ⟨b7,o7,none⟩) 1 1)/\w'.cell? ⟨b,off+k*5+1,none⟩=some (.int .i64 x.dc)/\w'.cell? ⟨b,off+k*5+2,none⟩=some (.int .i64 x.n)/\w'.cell? ⟨b,off+k*5+3,none⟩=some (.string x.s)/\w'.cell? ⟨b,off+k*5+4,none⟩=some (.int .i64 x.v)):=fun w' hb'=>⟨(hb'.cell hbB).trans e0,(hb'.cell hbB).trans e1,(hb'.cell hbB).trans e2,(hb'.cell hbB).trans e3,(hb'.cell hbB).trans e4⟩
      have HQ:=hid hqk
      have hsl:Hid (∀ (A:Option Addr),(([]:List ByteArray)≠[]->A=some ⟨b7,o7+1,none⟩)->∀ (cq:Nat),0<=cq->∀ (W:World),Below w.heap.size wr W->wr.heap.size<=W.heap.size->SlA W (fun b=>(okp b∨w.heap.size<=b)/\b<W.heap.size/\u5.ownBlock≠some b) 1 StE (.slice A 0 cq) ([]:List ByteArray)):=fun A hA cq hcq W hW hWs=>
       ⟨A,cq,rfl,hcq,by first|(unfold Big;omega)|simp[Big],fun hn=>⟨b7,o7+1,hA hn,⟨.inl hb7.1,by omega,fun e=>by have:=(OwnD.lt hown b7 e).1;have:=hb7.2;omega⟩,fun j s hs=>by
        obtain⟨cs,h1,h2,h3⟩:=hc7 (j+1) s hs
        refine⟨cs,h1,h2,fun i u hi=>?_⟩
        rw[←h3 i u hi]
        rw[show o7+1+j*1+i=o7+(j+1)*1+i by omega]
        exact (hW.cell (p:=⟨b7,o7+(j+1)*1+i,none⟩) hb7.2).trans (hb.cell (p:=⟨b7,o7+(j+1)*1+i,none⟩) hb7.2)⟩⟩
      clear hu hx hc l3 hut hc7 hu7 m3 hqk
      go_upto_region 6 with (fail)
      go_region_held3 (fun w'=>w'.cell? ⟨b,off+k*5,none⟩=some (.slice (some ⟨b7,o7,none⟩) 1 1)/\w'.cell? ⟨b,off+k*5+1,none⟩=some (.int .i64 x.dc)/\w'.cell? ⟨b,off+k*5+2,none⟩=some (.int .i64 x.n)/\w'.cell? ⟨b,off+k*5+3,none⟩=some (.string x.s)/\w'.cell? ⟨b,off+k*5+4,none⟩=some (.int .i64 x.v))
       (first|go_keep|exact HS.out _ hq1)
       (first|(go_loud (refine YA rfl (.tmp 30) (.tmp 43) _ rfl LfA.mon Yz (by decide) (by decide) rfl (hown.grow LfA.mon (((Below.refl _ wr).alloc (Nat.le_refl _) _).drew)) rfl (SlP.oneB (w:=wr.drew) (E:=LfA _ _) (x:=(([]:List ByteArray),x)) ⟨_,_,rfl,hsl.out _ (by first|exact fun hn=>absurd rfl hn|exact fun _=>rfl) _ (by omega) _ (((Below.refl _ wr).alloc hsz _).drew) (by simp),hok⟩ rfl _ rfl (by rw[World.size_drew,World.size_alloc];exact Nat.lt_succ_self _)) HL.out (by rw[World.size_drew,World.size_alloc];omega) ?_);intro v1 w1 hown1 hb1 hg1 _;have hq1:Below w.heap.size wr w1:=(((Below.refl _ wr).alloc hsz _).drew).trans hb1))
      go_wp2_with fail
      go_roundw
      case rel=>exact⟨k+1,by omega,by go_num,by rw[HX.out];exact hown1,hb.trans hq1⟩
      case measure=>simp[intOf];omega
     ·have hqk':(q.toList==key.toList)=false:=by simpa[QM] using hqk
      have HX:Hid (Qt (l.take (k+1)) key=Qt (l.take k) key):=by unfold Hid;rw[hut];simp[Yd,hqk]
      clear hu hx hc l3 hok hut hc7 hu7 m3 hqk
      go_wp2_with fail
      go_roundw
      case rel=>exact⟨k+1,by omega,by go_num,by rw[HX.out];exact hown,hb⟩
      case measure=>simp[intOf];omega
    ·have hi1:(1:Int)<=(qs.length:Int)+1:=by omega
     have hi2:(qs.length:Int)+1<=(c7:Int):=by omega
     by_cases hqk:q=key
     ·have hqk':(q.toList==key.toList)=true:=by rw[hqk];simp
      have HX:Hid (Qt (l.take (k+1)) key=Qt (l.take k) key++[(qs,x)]):=by unfold Hid;rw[hut];simp[Yd,hqk]
      have HL:Hid ((Qt (l.take k) key).length + [(qs,x)].length<=Few):=by have:=HLe.out;unfold Hid Few;simp;omega
      have HS:Hid (∀ w',Below w.heap.size wr w'->w'.cell? ⟨b,off+k*5,none⟩=some (.slice (some ⟨b7,o7,none⟩) (qs.length+1) c7)/\w'.cell? ⟨b,off+k*5+1,none⟩=some (.int .i64 x.dc)/\w'.cell? ⟨b,off+k*5+2,none⟩=some (.int .i64 x.n)/\w'.cell? ⟨b,off+k*5+3,none⟩=some (.string x.s)/\w'.cell? ⟨b,off+k*5+4,none⟩=some (.int .i64 x.v)):=fun w' hb'=>⟨(hb'.cell hbB).trans e0,(hb'.cell hbB).trans e1,(hb'.cell hbB).trans e2,(hb'.cell hbB).trans e3,(hb'.cell hbB).trans e4⟩
      have HQ:=hid hqk
      have hsl:Hid (∀ (A:Option Addr),(qs≠[]->A=some ⟨b7,o7+1,none⟩)->∀ (cq:Nat),qs.length<=cq->∀ (W:World),Below w.heap.size wr W->wr.heap.size<=W.heap.size->SlA W (fun b=>(okp b∨w.heap.size<=b)/\b<W.heap.size/\u5.ownBlock≠some b) 1 StE (.slice A qs.length cq) qs):=fun A hA cq hcq W hW hWs=>
       ⟨A,cq,rfl,hcq,by first|(unfold Big;omega)|simp[Big],fun hn=>⟨b7,o7+1,hA hn,⟨.inl hb7.1,by omega,fun e=>by have:=(OwnD.lt hown b7 e).1;have:=hb7.2;omega⟩,fun j s hs=>by
        obtain⟨cs,h1,h2,h3⟩:=hc7 (j+1) s hs
        refine⟨cs,h1,h2,fun i u hi=>?_⟩
        rw[←h3 i u hi]
        rw[show o7+1+j*1+i=o7+(j+1)*1+i by omega]
        exact (hW.cell (p:=⟨b7,o7+(j+1)*1+i,none⟩) hb7.2).trans (hb.cell (p:=⟨b7,o7+(j+1)*1+i,none⟩) hb7.2)⟩⟩
      clear hu hx hc l3 hut hc7 hu7 m3 hqk
      go_upto_region 6 with (fail)
      go_region_held3 (fun w'=>w'.cell? ⟨b,off+k*5,none⟩=some (.slice (some ⟨b7,o7,none⟩) (qs.length+1) c7)/\w'.cell? ⟨b,off+k*5+1,none⟩=some (.int .i64 x.dc)/\w'.cell? ⟨b,off+k*5+2,none⟩=some (.int .i64 x.n)/\w'.cell? ⟨b,off+k*5+3,none⟩=some (.string x.s)/\w'.cell? ⟨b,off+k*5+4,none⟩=some (.int .i64 x.v))
       (first|go_keep|exact HS.out _ hq1)
       (first|(go_loud (refine YA rfl (.tmp 30) (.tmp 43) _ rfl LfA.mon Yz (by decide) (by decide) rfl (hown.grow LfA.mon (((Below.refl _ wr).alloc (Nat.le_refl _) _).drew)) rfl (SlP.oneB (w:=wr.drew) (E:=LfA _ _) (x:=(qs,x)) ⟨_,_,rfl,hsl.out _ (by first|exact fun hn=>absurd rfl hn|exact fun _=>rfl) _ (by omega) _ (((Below.refl _ wr).alloc hsz _).drew) (by simp),hok⟩ rfl _ rfl (by rw[World.size_drew,World.size_alloc];exact Nat.lt_succ_self _)) HL.out (by rw[World.size_drew,World.size_alloc];omega) ?_);intro v1 w1 hown1 hb1 hg1 _;have hq1:Below w.heap.size wr w1:=(((Below.refl _ wr).alloc hsz _).drew).trans hb1))
      go_wp2_with fail
      go_roundw
      case rel=>exact⟨k+1,by omega,by go_num,by rw[HX.out];exact hown1,hb.trans hq1⟩
      case measure=>simp[intOf];omega
     ·have hqk':(q.toList==key.toList)=false:=by simpa[QM] using hqk
      have HX:Hid (Qt (l.take (k+1)) key=Qt (l.take k) key):=by unfold Hid;rw[hut];simp[Yd,hqk]
      clear hu hx hc l3 hok hut hc7 hu7 m3 hqk
      go_wp2_with fail
      go_roundw
      case rel=>exact⟨k+1,by omega,by go_num,by rw[HX.out];exact hown,hb⟩
      case measure=>simp[intOf];omega
  ·obtain rfl:k=l.length:=by omega
   rw[List.take_of_length_le (Nat.le_refl _)]at hown
   go_wp2_with fail
   go_ret
   exact⟨_,rfl,hown,hb⟩
end Go.Proofs.YtbcoelggdikipaaGreat
