/- What the laws need. No condition but those that each lemma states. -/
import Derived.Deep.RegionHeld3
import Derived.Laws.StructEq
import Derived.Sort.Walk0
import Derived.Test.YtidebdbjekijkaaGreatUm1
set_option maxRecDepth 100000
set_option maxHeartbeats 8000000
set_option linter.unusedSimpArgs false
namespace Go.Proofs.YtidebdbjekijkaaGreat
open Go.RowKit
def PopQ (Q:Exit->Act->World->Prop)(R:Act->World->Prop):Exit->Act->World->Prop
 |.normal,a,w=>R a w
 |e,a,w=>Q e a w
theorem PopQ.wp {P:Program}{o:Oper}{a:Act}{w:World}{K:Act->World->Prop}{Q:Exit->Act->World->Prop}{R:Act->World->Prop}(h:o.wp P a w K (PopQ Q R)):o.wp P a w K Q:=by
 unfold Oper.wp at *
 cases hr:(execOp a.eval o).run P w with
 |ok n w'=>
  rw[hr]at h
  cases n with
  |value v=>exact h
  |skip=>exact h
  |defer d=>exact h
  |enter f args=>exact Calls.mono h fun e w'' he=>by cases e<;>exact he
  |row row args=>exact h
  |_=>exact h
 |halt x w'=>
  rw[hr]at h
  cases x<;>exact h
section
variable {P:Program}{Q:Exit->Act->World->Prop}{md:Region.Mode}{ops':Array Oper}{o:Oper}
theorem Yx (hord:∀ (j:Nat) (x:Oper),ops'[j]?=some x->∀ e∈x.after,e.on<j){listed:Array Bool}(hs:listed.size=ops'.size)(hr:Region.ready md ops' listed=[]):∀ j,j<ops'.size->listed.getD j false=true:=by
 intro j
 induction j using Nat.strongRecOn with
 |ind j ih=>
  intro hj
  cases hl:listed.getD j false with
  |true=>rfl
  |false=>
   have hx:ops'[j]?=some ops'[j]:=Array.getElem?_eq_getElem hj
   have:j∈Region.ready md ops' listed:=mem_ready.2 ⟨by simp[Array.getElem?_eq_getElem (hs▸hj:j<listed.size)]at hl ⊢;exact hl,_,hx,fun e he _=>ih e.on (hord j _ hx e he) (Nat.lt_trans (hord j _ hx e he) hj)⟩
   rw[hr]at this;cases this
theorem Ku (hg:∀ (j:Nat) (x:Oper),ops'[j]?=some x->x.guard=none){i:Nat}{a:Act}{w:World}{K K':Act->World->Prop}{R:Act->World->Prop}(hi:i<ops'.size)(hK:∀ a w,K a w->K' a w)(h:wpOp P ops' (PopQ Q R) i K a w) :
  wpOp P (ops'.push o) Q i K' a w:=by
 have hx:ops'[i]?=some ops'[i]:=Array.getElem?_eq_getElem hi
 have hx':(ops'.push o)[i]?=some ops'[i]:=by rw[Array.getElem?_push,if_neg (by omega)];exact hx
 have hw:∀ ops:Array Oper,Region.wanted ops'[i] (yielded ops a.tmps)=true:=fun ops=>by simp[Region.wanted,hg i _ hx]
 unfold wpOp at *
 rw[hx'] ;rw[hx]at h
 simp only[hw,if_true]at *
 rcases h with h|h
 ·exact .inl (Oper.wp_mono hK (PopQ.wp h))
 ·exact .inr h
theorem VX (hg:∀ (j:Nat) (x:Oper),ops'[j]?=some x->x.guard=none)(hord:∀ (j:Nat) (x:Oper),ops'[j]?=some x->∀ e∈x.after,e.on<j)(hlast:∀ j,j<ops'.size->∃ e∈o.after,Region.binds md e=true/\e.on=j)(hon:∀ e∈o.after,e.on<ops'.size)(hgo:o.guard=none) :
  ∀ (fuel:Nat) (listed:Array Bool) (a:Act) (w:World),listed.size=ops'.size->wpAny P md ops' (PopQ Q (wpList P (ops'.push o) Q [o])) fuel listed a w->wpAny P md (ops'.push o) Q (fuel+1) (listed.push false) a w:=by
 have hin:∀ (listed:Array Bool),listed.size=ops'.size->∀ i,i∈Region.ready md (ops'.push o) (listed.push false)->(i<ops'.size/\i∈Region.ready md ops' listed)∨(i=ops'.size/\Region.ready md ops' listed=[]):=by
  intro listed hs i hi
  obtain⟨h1,x,hx,h2⟩:=mem_ready.1 hi
  have hlt:i<ops'.size+1:=by have:=(Array.getElem?_eq_some_iff.1 hx).1;simpa using this
  by_cases he:i<ops'.size
  ·refine .inl ⟨he,mem_ready.2 ⟨?_,x,?_,fun e hee hb=>?_⟩⟩
   ·simp only[Array.getD_eq_getD_getElem?,Array.getElem?_push,if_neg (show ¬i=listed.size by omega)]at h1 ⊢;exact h1
   ·rw[Array.getElem?_push,if_neg (by omega)]at hx;exact hx
   ·have hx2:ops'[i]?=some x:=by rw[Array.getElem?_push,if_neg (by omega)]at hx;exact hx
    have h3:=h2 e hee hb
    have h4:=hord i x hx2 e hee
    simp only[Array.getD_eq_getD_getElem?,Array.getElem?_push,if_neg (show ¬e.on=listed.size by omega)]at h3 ⊢;exact h3
  ·obtain rfl:i=ops'.size:=by omega
   refine .inr ⟨rfl,?_⟩
   have hxo:x=o:=by rw[Array.getElem?_push,if_pos rfl]at hx;exact (Option.some.inj hx).symm
   subst hxo
   rw[List.eq_nil_iff_forall_not_mem]
   intro j hj
   obtain⟨g1,y,hy,_⟩:=mem_ready.1 hj
   have hj':=(Array.getElem?_eq_some_iff.1 hy).1
   obtain⟨e,he1,he2,he3⟩:=hlast j hj'
   have h3:=h2 e he1 he2
   rw[he3]at h3
   simp only[Array.getD_eq_getD_getElem?,Array.getElem?_push,if_neg (show ¬j=listed.size by omega)]at h3 g1
   rw[Array.getElem?_eq_getElem (show j<listed.size by omega)]at h3 g1
   simp at h3 g1;rw[h3]at g1;cases g1
 have hfin:∀ (listed:Array Bool),listed.size=ops'.size->Region.ready md ops' listed=[]->Region.ready md (ops'.push o) ((listed.push false).setIfInBounds ops'.size true)=[]:=by
  intro listed hs hr
  rw[List.eq_nil_iff_forall_not_mem]
  intro j hj
  obtain⟨g1,y,hy,_⟩:=mem_ready.1 hj
  have hj':j<ops'.size+1:=by have:=(Array.getElem?_eq_some_iff.1 hy).1;simpa using this
  by_cases he:j<ops'.size
  ·have:=Yx hord hs hr j he
   simp only[Array.getD_eq_getD_getElem?,Array.getElem?_setIfInBounds,Array.getElem?_push,if_neg (show ¬ops'.size=j by omega),if_neg (show ¬j=listed.size by omega)]at g1 this
   rw[Array.getElem?_eq_getElem (show j<listed.size by omega)]at g1 this
   simp at g1 this;rw[this]at g1;cases g1
  ·obtain rfl:j=ops'.size:=by omega
   simp[hs]at g1
 have hstep:∀ (fuel:Nat) (listed:Array Bool) (a:Act) (w:World),listed.size=ops'.size->Region.ready md ops' listed=[]->wpList P (ops'.push o) Q [o] a w->wpOp P (ops'.push o) Q ops'.size (wpAny P md (ops'.push o) Q fuel ((listed.push false).setIfInBounds ops'.size true)) a w:=by
  intro fuel listed a w hs hr h
  unfold wpOp
  rw[Array.getElem?_push,if_pos rfl]
  have hw:Region.wanted o (yielded (ops'.push o) a.tmps)=true:=by simp[Region.wanted,hgo]
  unfold wpList at h
  simp only[hw,if_true]at *
  have hK:∀ a w,wpList P (ops'.push o) Q [] a w->wpAny P md (ops'.push o) Q fuel ((listed.push false).setIfInBounds ops'.size true) a w:=fun a w hq=>by
   have:=hfin listed hs hr
   cases fuel with
   |zero=>exact⟨this,hq⟩
   |succ fuel=>exact⟨fun _=>hq,by rw[this];simp⟩
  rcases h with h|h
  ·exact .inl (Oper.wp_mono hK h)
  ·exact .inr h
 intro fuel
 induction fuel with
 |zero=>
  intro listed a w hs h
  obtain⟨h1,h2⟩:=h
  refine⟨fun h0=>?_,fun i hi=>?_⟩
  ·exfalso
   have:ops'.size∈Region.ready md (ops'.push o) (listed.push false):=mem_ready.2 ⟨by simp[←hs],o,by simp,fun e he _=>by
    have:=Yx hord hs h1 e.on (hon e he)
    simp only[Array.getD_eq_getD_getElem?,Array.getElem?_push,if_neg (show ¬e.on=listed.size by have:=hon e he;omega)]at this ⊢;exact this⟩
   rw[h0]at this;cases this
  ·rcases hin listed hs i hi with⟨_,h3⟩|⟨rfl,_⟩
   ·rw[h1]at h3;cases h3
   ·exact hstep 0 listed a w hs h1 h2
 |succ fuel ih=>
  intro listed a w hs h
  obtain⟨h1,h2⟩:=h
  refine⟨fun h0=>?_,fun i hi=>?_⟩
  ·exfalso
   by_cases hr:Region.ready md ops' listed=[]
   ·have:ops'.size∈Region.ready md (ops'.push o) (listed.push false):=mem_ready.2 ⟨by simp[←hs],o,by simp,fun e he _=>by
     have:=Yx hord hs hr e.on (hon e he)
     simp only[Array.getD_eq_getD_getElem?,Array.getElem?_push,if_neg (show ¬e.on=listed.size by have:=hon e he;omega)]at this ⊢;exact this⟩
    rw[h0]at this;cases this
   ·obtain⟨i,hi⟩:=List.exists_mem_of_ne_nil _ hr
    obtain⟨g1,x,hx,g2⟩:=mem_ready.1 hi
    have hlt:=(Array.getElem?_eq_some_iff.1 hx).1
    have:i∈Region.ready md (ops'.push o) (listed.push false):=mem_ready.2 ⟨by
     simp only[Array.getD_eq_getD_getElem?,Array.getElem?_push,if_neg (show ¬i=listed.size by omega)]at g1 ⊢;exact g1,x,by rw[Array.getElem?_push,if_neg (by omega)];exact hx,fun e he hb=>by
     have h3:=g2 e he hb
     have h4:=hord i x hx e he
     simp only[Array.getD_eq_getD_getElem?,Array.getElem?_push,if_neg (show ¬e.on=listed.size by omega)]at h3 ⊢;exact h3⟩
    rw[h0]at this;cases this
  ·rcases hin listed hs i hi with⟨hlt,h3⟩|⟨rfl,hr⟩
   ·refine Ku hg hlt (fun a w hk=>?_) (h2 i h3)
    have:=ih (listed.setIfInBounds i true) a w (by simpa using hs) hk
    rw[show (listed.push false).setIfInBounds i true=(listed.setIfInBounds i true).push false from ?_]
    ·exact this
    ·apply Array.ext_getElem?
     intro j
     simp only[Array.getElem?_setIfInBounds,Array.getElem?_push,Array.size_setIfInBounds,Array.size_push]
     by_cases e1:i=j
     ·subst e1
      simp[show i<listed.size by omega,show ¬i=listed.size by omega,show i<listed.size+1 by omega]
     ·simp[e1]
   ·exact hstep (fuel+1) listed a w hs hr (h1 hr)
end
def popB (ops':List Oper)(o:Oper):Bool:=
 ops'.all (fun x=>x.guard.isNone)&&o.guard.isNone&&((List.range ops'.length).all fun j=>match ops'[j]? with|some x=>x.after.all fun e=>decide (e.on<j)|none=>true) &&
  ((List.range ops'.length).all fun j=>o.after.any fun e=>Region.binds .any e&&(e.on==j))&&(o.after.all fun e=>decide (e.on<ops'.length))
theorem XL {P:Program}{Q:Exit->Act->World->Prop}{S:World->Prop}{id:Nat}(ops':List Oper)(o:Oper){ops:Array Oper}{a:Act}{w:World}(hm:P.follows .mixedOrders=true)(ho:ops=(ops'++[o]).toArray)(hc:popB ops' o=true)
  (h:wpAnyH P .any ops'.toArray (PopQ Q (wpList P ops Q [o])) S ops'.length (List.replicate ops'.length false).toArray a w.drew):(Code.region id ops true).wp P Q a w:=by
 unfold popB at hc
 simp only[Bool.and_eq_true,List.all_eq_true,List.mem_range,Array.all_eq_true_iff_forall_mem,Array.any_eq_true',decide_eq_true_eq,beq_iff_eq,Option.isNone_iff_eq_none]at hc
 obtain⟨⟨⟨⟨c1,c2⟩,c3⟩,c4⟩,c5⟩:=hc
 have ho':ops=ops'.toArray.push o:=by rw[ho];simp
 have h':=wpAny_of_held _ _ _ _ h
 rw[ho']at h'
 have:=VX (md:=.any) (ops':=ops'.toArray) (o:=o) (P:=P) (Q:=Q) (fun j x hx=>c1 x (by simpa using List.mem_of_getElem? (by simpa using hx)))
  (fun j x hx e he=>by
   have hx':ops'[j]?=some x:=by simpa using hx
   have:=c3 j (List.getElem?_eq_some_iff.1 hx').1
   rw[hx']at this
   simp only[Array.all_eq_true_iff_forall_mem,decide_eq_true_eq]at this
   exact this e he)
  (fun j hj=>by
   obtain⟨e,h1,h2⟩:=c4 j (by simpa using hj)
   exact⟨e,h1,h2.1,h2.2⟩)
  (fun e he=>by simpa using c5 e he) c2 ops'.length (List.replicate ops'.length false).toArray a w.drew (by simp) h'
 refine wp_region_any hm ?_
 rw[ho']
 have e1:(ops'.toArray.push o).size=ops'.length+1:=by simp
 have e2:Array.replicate (ops'.toArray.push o).size false=(List.replicate ops'.length false).toArray.push false:=by
  apply Array.ext'
  rw[e1];simp[List.replicate_succ']
 rw[e2,e1]
 exact this
def popL (n:Nat)(l:List Oper):Bool:=match l.drop n with|[o]=>((l.take n).length==n)&&popB (l.take n) o|_=>false
theorem Q7 {P:Program}{Q:Exit->Act->World->Prop}{S:World->Prop}{id:Nat}(n:Nat){l:List Oper}{a:Act}{w:World}(hm:P.follows .mixedOrders=true)(hc:popL n l=true)
  (h:wpAnyH P .any (l.take n).toArray (PopQ Q (wpList P l.toArray Q (l.drop n))) S n (List.replicate n false).toArray a w.drew):(Code.region id l.toArray true).wp P Q a w:=by
 unfold popL at hc
 split at hc
 ·rename_i o ho
  simp only[Bool.and_eq_true,beq_iff_eq]at hc
  refine XL (S:=S) (l.take n) o hm (by rw[←ho,List.take_append_drop]) hc.2 ?_
  rw[hc.1,←ho]
  exact h
 ·cases hc
mutual
def Tr.lvs:Tr->List ByteArray->List Lf
 |.mk es ks,p=>es.map (fun e=>(p,e))++Tr.lvsL ks p
def Tr.lvsL:List (ByteArray×Tr)->List ByteArray->List Lf
 |[],_=>[]
 |(k,t) :: ks,p=>t.lvs (p++[k])++Tr.lvsL ks p
end
mutual
theorem lvs_len:∀ (t:Tr) (p:List ByteArray),(t.lvs p).length<=t.sz
 |.mk es ks,p=>by rw[Tr.lvs,Tr.sz];have:=lvsL_len ks p;simp;omega
theorem lvsL_len:∀ (ks:List (ByteArray×Tr)) (p:List ByteArray),(Tr.lvsL ks p).length<=Tr.szL ks
 |[],p=>by simp[Tr.lvsL]
 |(k,t) :: ks,p=>by rw[Tr.lvsL,Tr.szL];have:=lvs_len t (p++[k]);have:=lvsL_len ks p;simp;omega
end
theorem VZ {ks:List Kd}{k:Nat}{x:Kd}(h:ks[k]?=some x)(p:List ByteArray):Tr.lvsL (ks.take (k+1)) p=Tr.lvsL (ks.take k) p++x.2.lvs (p++[x.1]):=by
 induction ks generalizing k with
 |nil=>simp at h
 |cons y ks ih=>
  obtain⟨yk,yt⟩:=y
  cases k with
  |zero=>simp at h;subst h;simp[Tr.lvsL]
  |succ k=>simp only[List.take_succ_cons];rw[Tr.lvsL,Tr.lvsL,ih (by simpa using h),List.append_assoc]
theorem Jd (t:Tr):∀ (p:List ByteArray) (okp:Nat->Prop) (w:World) (ve vk vp:Value),t.rd w w.heap.size ve vk->SlA w okp 1 StE vp p->(∀ b,okp b->b<w.heap.size)->p.length+t.sz<=100000 ->
  Calls Tryz.prog 103 #[.agg #[ve,vk],vp] w (RetD w 102 5 LfA okp (t.lvs p)):=by
 induction t using Tr.ind with
 |h es ks ih=>
 intro p okp w ve vk vp h hp hok0 hN
 rw[QH]at h
 obtain⟨⟨A1,n,rfl,b1,b2,b3⟩,⟨A2,m,rfl,c1,c2,c3⟩⟩:=h
 obtain⟨A5,n5,rfl,p1,p2,p3⟩:=hp
 have hp:SlA w okp 1 StE (.slice A5 p.length n5) p:=⟨A5,n5,rfl,p1,p2,p3⟩
 have hpP:SlP w w.heap.size 1 StE (.slice A5 p.length n5) p:=hp.up (fun _ _=>rfl) hok0 fun _ _ _ h=>h
 unfold Big at b2 c2
 rw[Tr.sz]at hN
 have hkl:=JU ks
 clear p3 p2
 go_enter Tryz.func103,Tryz.ntmps103
 go_wp2_with fail
 go_loopw [5,12] (fun v i wr=>∃ k:Nat,k<=es.length/\i=.int .i64 k/\OwnD wr (w.heap.size+1) 102 5 LfA (fun b=>okp b∨w.heap.size<=b) v ((es.take k).map fun e=>(p,e)) /\
   Below (w.heap.size+1) (w.alloc (.cells #[.slice A1 es.length n,.slice A2 ks.length m] 25)) wr) (fun _ i _=>es.length-(intOf i).toNat)
 case atStart=>exact⟨0,Nat.zero_le _,rfl,OwnD.nil,Below.refl _ _⟩
 case round=>
  obtain⟨k,hk,rfl,hown,hb⟩:=hrel
  have hsz:=hb.size
  simp only[World.size_alloc]at hsz
  have hB0:Below w.heap.size w wr:=((Below.refl _ w).alloc (Nat.le_refl _) _).trans (hb.mono (by omega))
  have hw0:wr.cell? ⟨w.heap.size,0,none⟩=some (.slice A1 es.length n):=by rw[hb.cell (p:=⟨w.heap.size,0,none⟩) (by simp)];simp
  have hw1:wr.cell? ⟨w.heap.size,1,none⟩=some (.slice A2 ks.length m):=by rw[hb.cell (p:=⟨w.heap.size,1,none⟩) (by simp)];simp
  by_cases hlt:k<es.length
  ·obtain⟨x,hx⟩:∃ x,es[k]?=some x:=⟨_,List.getElem?_eq_getElem hlt⟩
   obtain⟨b,off,rfl,hbB,hc⟩:=b3 (by rintro rfl;simp at hlt)
   obtain⟨cs,⟨rfl,hok⟩,_,hu⟩:=hc k _ hx
   have e0:wr.cell? ⟨b,off+k*4,none⟩=some (.int .i64 x.dc):=(hB0.cell hbB).trans (hu 0 _ rfl)
   have e1:wr.cell? ⟨b,off+k*4+1,none⟩=some (.int .i64 x.n):=(hB0.cell hbB).trans (hu 1 _ rfl)
   have e2:wr.cell? ⟨b,off+k*4+2,none⟩=some (.string x.s):=(hB0.cell hbB).trans (hu 2 _ rfl)
   have e3:wr.cell? ⟨b,off+k*4+3,none⟩=some (.int .i64 x.v):=(hB0.cell hbB).trans (hu 3 _ rfl)
   have HX:Hid (((es.take (k+1)).map fun e=>(p,e))=((es.take k).map fun e=>(p,e))++[(p,x)]):=by
    unfold Hid;rw[List.take_add_one,hx];simp
   have HL:Hid (((es.take k).map fun e=>(p,e)).length + [(p,x)].length<=Few):=by unfold Hid Few;simp;omega
   have HO:Hid (∀ o,SlP (wr.alloc (.cells [.slice A5 p.length n5,.int .i64 x.dc,.int .i64 x.n,.string x.s,.int .i64 x.v].toArray o)) (wr.alloc (.cells [.slice A5 p.length n5,.int .i64 x.dc,.int .i64 x.n,.string x.s,.int .i64 x.v].toArray o)).heap.size 5 (LfA (wr.alloc (.cells [.slice A5 p.length n5,.int .i64 x.dc,.int .i64 x.n,.string x.s,.int .i64 x.v].toArray o)) (fun b=>(okp b∨w.heap.size<=b)/\b<(wr.alloc (.cells [.slice A5 p.length n5,.int .i64 x.dc,.int .i64 x.n,.string x.s,.int .i64 x.v].toArray o)).heap.size/\u5.ownBlock≠some b)) (.slice (some ⟨wr.heap.size,0,none⟩) 1 1) [(p,x)]):=fun o=>by
    rw[World.size_alloc]
    refine SlP.one (E:=LfA _ _) (x:=(p,x)) ⟨A5,n5,rfl,?_,hok⟩ rfl o rfl
    refine (hp.up (fun b hb'=>((hB0.alloc (by omega) _).block b (hok0 b hb'))) (fun b hb'=>⟨.inl hb',by have h1:=hok0 b hb';omega,fun e=>?_⟩) fun _ _ _ h=>h)
    have:=(OwnP.lt hown b e).1;have h1:=hok0 b hb';omega
   clear hu hx hc b3 hok
   go_wp2_with (at_builtin;with_reducible refine YR rfl (.tmp 15) (.tmp 23) _ rfl LfA.mon Kr (by decide) (by decide) rfl (hown.grow LfA.mon ((Below.refl _ _).alloc (Nat.le_refl _) _)) rfl (HO.out _) HL.out (by rw[World.size_alloc];omega) ?_;intro v1 w1 hown1 hb1 _ _)
   go_roundw
   case rel=>exact⟨k+1,by omega,by go_num,by rw[HX.out];exact hown1,(hb.alloc (by omega) _).trans hb1⟩
   case measure=>simp[intOf];omega
  ·obtain rfl:k=es.length:=by omega
   rw[List.take_of_length_le (Nat.le_refl _)]at hown
   go_wp2_with fail
   clear hw0 hw1 hB0 hsz
   obtain⟨wo,rfl⟩:∃ wo:World,wo=wr:=⟨_,rfl⟩
   go_loopw [5,29] (fun v i wr=>∃ k:Nat,k<=ks.length/\i=.int .i64 k/\OwnD wr (w.heap.size+1) 102 5 LfA (fun b=>okp b∨w.heap.size<=b) v (es.map (fun e=>(p,e))++Tr.lvsL (ks.take k) p) /\
     Below (w.heap.size+1) (w.alloc (.cells #[.slice A1 es.length n,.slice A2 ks.length m] 25)) wr) (fun _ i _=>ks.length-(intOf i).toNat)
   case atStart=>exact⟨0,Nat.zero_le _,rfl,by simpa[Tr.lvsL] using hown,hb⟩
   case round=>
    clear hown hb
    obtain⟨k,hk,rfl,hown,hb⟩:=hrel
    have hsz:=hb.size
    simp only[World.size_alloc]at hsz
    have hB0:Below w.heap.size w wr:=((Below.refl _ w).alloc (Nat.le_refl _) _).trans (hb.mono (by omega))
    have hw1:wr.cell? ⟨w.heap.size,1,none⟩=some (.slice A2 ks.length m):=by rw[hb.cell (p:=⟨w.heap.size,1,none⟩) (by simp)];simp
    by_cases hlt:k<ks.length
    ·obtain⟨⟨key,t⟩,hx⟩:∃ x,ks[k]?=some x:=⟨_,List.getElem?_eq_getElem hlt⟩
     obtain⟨b,off,rfl,hbB,hc⟩:=c3 (by rintro rfl;simp at hlt)
     obtain⟨cs,⟨ve',vk',rfl,hkb,hrd⟩,_,hu⟩:=hc k _ hx
     obtain⟨A3,n3,A4,n4,rfl,rfl⟩:=Qk hrd
     have e0:wr.cell? ⟨b,off+k*3,none⟩=some (.string key):=(hB0.cell hbB).trans (hu 0 _ rfl)
     have hmem:(key,t)∈ks:=List.mem_of_getElem? hx
     have hsm:=qYk hmem
     have hst:=qZ4 hx
     have hsl:=qY8 (ks:=ks) (k+1)
     have HX:Hid (es.map (fun e=>(p,e))++Tr.lvsL (ks.take (k+1)) p=es.map (fun e=>(p,e))++Tr.lvsL (ks.take k) p++t.lvs (p++[key])):=by unfold Hid;rw[VZ hx,List.append_assoc]
     have HL:Hid ((es.map (fun e=>(p,e))++Tr.lvsL (ks.take k) p).length+(t.lvs (p++[key])).length<=Few):=by
      have h1:=lvsL_len (ks.take k) p
      have h2:=lvs_len t (p++[key])
      unfold Hid Few;simp;simp at hst;omega
     have HC1:Hid (∀ w',Below w.heap.size w w'->w'.cell? ⟨b,off+k*3+1,none⟩=some (.slice A3 t.es.length n3)/\w'.cell? ⟨b,off+k*3+2,none⟩=some (.slice A4 t.ks.length n4)):=fun w' hb'=>⟨(hb'.cell hbB).trans (hu 1 _ rfl),(hb'.cell hbB).trans (hu 2 _ rfl)⟩
     have HR:Hid (∀ w',Below w.heap.size w w'->t.rd w' w'.heap.size (.slice A3 t.es.length n3) (.slice A4 t.ks.length n4)):=fun w' hb'=>Qg hb' hb'.size _ _ _ hrd
     have HP:Hid (SlP wr wr.heap.size 1 StE (.slice A5 p.length n5) p):=hpP.imp hB0 (by omega) fun _ _ _ h=>h
     have HS:Hid (∀ w',Below wr.heap.size wr w'->w'.cell? ⟨w.heap.size,1,none⟩=some (.slice (some ⟨b,off,none⟩) ks.length m)/\w'.cell? ⟨b,off+k*3,none⟩=some (.string key)):=fun w' hb'=>⟨(hb'.cell (p:=⟨w.heap.size,1,none⟩) (by exact hsz)).trans hw1,(hb'.cell (p:=⟨b,off+k*3,none⟩) (by show b<_;omega)).trans e0⟩
     have hpl:p.length<=100000:=by omega
     have hts:p.length+1+t.sz<=100000:=by omega
     clear hu hx hc c3 hrd hst hsl
     go_upto_region 10 with (fail)
     go_cut [8] (fun vq wc=>OwnP wc wr.heap.size 9 1 StE vq (p++[key])/\Below wr.heap.size wr wc)
     case first=>
      go_region_held3 (fun w'=>w'.cell? ⟨w.heap.size,1,none⟩=some (.slice (some ⟨b,off,none⟩) ks.length m)/\w'.cell? ⟨b,off+k*3,none⟩=some (.string key))
       (first|go_keep|exact HS.out _ hq42|exact HS.out _ hq34|exact HS.out _ (hq34.alloc (by omega) _))
       (first
        |(refine ZC (v:=.slice (some ⟨_,0,none⟩) 0 0) rfl (.tmp 32) (.tmp 33) _ rfl eiStr (by decide) (by decide) (fun _ _ h=>StE.one h) rfl (OwnP.empty (base:=wr.heap.size) (by first|exact Qh rfl|exact (Qi (by simp)).trans (Qh rfl)|exact Qh (by simp)) (by omega)) rfl (HP.out.imp (by go_grown) (Nat.le_refl _) fun _ _ _ h=>h) (by unfold Few;simp;omega) (by first|(simp;done)|(simp;omega)) ?_;intro v34 w34 hown34 hb34 hg34;have hs34:=hb34.size;simp only[World.size_drew,World.size_alloc]at hs34;have hq34:Below wr.heap.size wr w34:=Below.trans (by go_grown) hb34)
        |(refine ZC rfl (.tmp 34) (.tmp 41) _ rfl eiStr (by decide) (by decide) (fun _ _ h=>StE.one h) rfl (by first|exact hown34.alloc _|exact hown34) rfl (by first|exact SlP.one (x:=key) (cs:=[.string key]) ⟨rfl,hkb⟩ rfl _ rfl|exact SlP.at1 (B:=w34.heap.size) ((World.cell?_of_block (hg34.block _ (by simp only[World.size_drew,World.size_alloc];omega) (by simp[Value.ownBlock]))).trans (by first|(simp;done)|(rw[World.cell?_drew,World.cell?_alloc_at _ _ _ _ (by simp)];rfl))) hkb (by omega)) (by unfold Few;simp;omega) (by first|(simp;omega)|omega) ?_;intro v42 w42 hown42 hb42 hg42;have hq42:Below wr.heap.size wr w42:=(by first|exact hq34.trans hb42|exact (hq34.alloc (by omega) _).trans hb42)))
      all_goals
       go_wp2_with fail
       go_meet
       case rel=>exact⟨by simpa using hown42,hq42⟩
     case rest=>
      obtain⟨hvq,hbq⟩:=hcut
      have hsq:=hbq.size
      have hBq:Below w.heap.size w wc:=hB0.trans (hbq.mono (by omega))
      obtain⟨hw2,_⟩:=HS.out wc hbq
      obtain⟨e1,e2⟩:=HC1.out wc hBq
      have HRq:=hid (HR.out wc hBq)
      have HVq:Hid (SlA wc (fun b=>wr.heap.size<=b/\b<wc.heap.size) 1 StE u8 (p++[key])):=(hvq.sla (by unfold Big;simp;omega)).up (fun _ _=>rfl) (fun _ h=>⟨h.1,h.2.1⟩) fun _ _ _ h=>h
      clear hvq hw1 e0
      go_wp2_with fail
      refine (ih key t hmem (p++[key]) _ wc _ _ u8 HRq.out HVq.out (fun _ h=>h.2) (by simp;omega)).mono ?_
      rintro e w2 ⟨v2,rfl,hv2,hb2⟩
      have hs2:=hb2.size
      have HO2:Hid (SlP w2 w2.heap.size 5 (LfA w2 (fun b=>(okp b∨w.heap.size<=b)/\b<w2.heap.size/\u5.ownBlock≠some b)) v2 (t.lvs (p++[key]))):=by
       refine (hv2.sl LfA.mon (by have:=lvs_len t (p++[key]);unfold Big;omega)).imp (Below.refl _ _) (Nat.le_refl _) fun x _ cs hx=>LfA.mon.up (fun _ _=>rfl) (fun b hb=>?_) hx
       have h1:wr.heap.size<=b:=by rcases hb.1 with h|h<;>omega
       refine⟨.inr (by omega),hb.2,fun e=>?_⟩
       have:=(OwnD.lt hown b e).2
       omega
      clear hv2
      go_wp2_with (at_builtin;go_loud (refine YR rfl (.tmp 43) (.tmp 51) _ rfl LfA.mon Kr (by decide) (by decide) rfl (hown.grow LfA.mon (hbq.trans (hb2.mono hsq))) rfl HO2.out HL.out (by omega) ?_);intro v1 w1 hown1 hb1 _ _)
      go_roundw
      case rel=>exact⟨k+1,by omega,by go_num,by rw[HX.out];exact hown1,((hb.trans (hbq.mono (by omega))).trans (hb2.mono (by omega))).trans hb1⟩
      case measure=>simp[intOf];omega
    ·obtain rfl:k=ks.length:=by omega
     rw[List.take_of_length_le (Nat.le_refl _)]at hown
     go_wp2_with fail
     go_ret
     exact⟨_,rfl,by rw[Tr.lvs];exact hown.mono (by omega),((Below.refl _ w).alloc (Nat.le_refl _) _).trans (hb.mono (by omega))⟩
mutual
def Tr.dots:Tr->List Dt
 |.mk es ks=>es.map En.dot++Tr.dotsL ks
def Tr.dotsL:List (ByteArray×Tr)->List Dt
 |[]=>[]
 |(_,t) :: ks=>t.dots++Tr.dotsL ks
end
theorem Vm {ks:List Kd}{k:Nat}{x:Kd}(h:ks[k]?=some x):Tr.dotsL (ks.take (k+1))=Tr.dotsL (ks.take k)++x.2.dots:=by
 induction ks generalizing k with
 |nil=>simp at h
 |cons y ks ih=>
  obtain⟨yk,yt⟩:=y
  cases k with
  |zero=>simp at h;subst h;simp[Tr.dotsL]
  |succ k=>simp only[List.take_succ_cons];rw[Tr.dotsL,Tr.dotsL,ih (by simpa using h),List.append_assoc]
theorem V7 {ks:List Kd}(k:Nat):(Tr.dotsL (ks.take k)).length<=(Tr.dotsL ks).length:=by
 induction ks generalizing k with
 |nil=>simp
 |cons y ks ih=>
  obtain⟨yk,yt⟩:=y
  cases k with
  |zero=>simp[Tr.dotsL]
  |succ k=>simp only[List.take_succ_cons];rw[Tr.dotsL,Tr.dotsL];have:=ih k;simp;omega
theorem qZ8 (t:Tr):∀ (w:World) (ve vk:Value),t.rd w w.heap.size ve vk->t.dots.length<=1000000 ->
  Calls Tryz.prog 144 #[.agg #[ve,vk]] w (RetO w 52 2 (fun _=>DtE) t.dots):=by
 induction t using Tr.ind with
 |h es ks ih=>
 intro w ve vk h hN
 rw[QH]at h
 obtain⟨⟨A1,n,rfl,b1,b2,b3⟩,⟨A2,m,rfl,c1,c2,c3⟩⟩:=h
 unfold Big at b2 c2
 rw[Tr.dots,List.length_append,List.length_map]at hN
 go_enter Tryz.func144,Tryz.ntmps144
 go_wp2_with fail
 go_loopw [3,11] (fun v i wr=>∃ k:Nat,k<=es.length/\i=.int .i64 k/\OwnP wr (w.heap.size+1) 52 2 DtE v ((es.take k).map En.dot) /\
   Below (w.heap.size+1) (w.alloc (.cells #[.slice A1 es.length n,.slice A2 ks.length m] 25)) wr) (fun _ i _=>es.length-(intOf i).toNat)
 case atStart=>exact⟨0,Nat.zero_le _,rfl,OwnP.nil,Below.refl _ _⟩
 case round=>
  obtain⟨k,hk,rfl,hown,hb⟩:=hrel
  have hsz:=hb.size
  simp only[World.size_alloc]at hsz
  have hl1:((es.take k).map En.dot).length=k:=by simp;omega
  by_cases hlt:k<es.length
  ·obtain⟨x,hx⟩:∃ x,es[k]?=some x:=⟨_,List.getElem?_eq_getElem hlt⟩
   obtain⟨b,off,rfl,hbB,hc⟩:=b3 (by rintro rfl;simp at hlt)
   obtain⟨cs,⟨rfl,hok⟩,_,hu⟩:=hc k _ hx
   have hbo:∀ o,wr.cell? ⟨b,o,none⟩=w.cell? ⟨b,o,none⟩:=fun o=>(hb.cell (p:=⟨b,o,none⟩) (by simp;omega)).trans (World.cell?_alloc_lt _ _ _ hbB)
   have e0:wr.cell? ⟨b,off+k*4,none⟩=some (.int .i64 x.dc):=(hbo _).trans (hu 0 _ rfl)
   have e1:wr.cell? ⟨b,off+k*4+1,none⟩=some (.int .i64 x.n):=(hbo _).trans (hu 1 _ rfl)
   have e2:wr.cell? ⟨b,off+k*4+2,none⟩=some (.string x.s):=(hbo _).trans (hu 2 _ rfl)
   have e3:wr.cell? ⟨b,off+k*4+3,none⟩=some (.int .i64 x.v):=(hbo _).trans (hu 3 _ rfl)
   have hd:x.dot.Ok:=⟨hok.dc,hok.n⟩
   have HX:Hid ((es.take (k+1)).map En.dot=(es.take k).map En.dot++[x.dot]):=by
    unfold Hid;rw[List.take_add_one,hx];simp
   have HL:Hid (((es.take k).map En.dot).length + [x.dot].length<=Few):=by unfold Hid Few;rw[hl1];simp;omega
   clear hu hbo hx hc b3 hok hl1
   have HB:Hid (w.heap.size+1<=wr.heap.size+1+1):=by unfold Hid;omega
   go_wp2_with (at_builtin;go_loud (refine Qj rfl (.tmp 15) (.tmp 18) _ rfl eiDot (by decide) (by decide) (fun _ _ h=>h.one) rfl ((hown.alloc _).alloc _) rfl (SlP.one (x:=x.dot) (cs:=[.int .i64 x.dc,.int .i64 x.n]) ⟨rfl,hd⟩ rfl _ (World.size_alloc _ _).symm) HL.out (by rw[World.size_alloc,World.size_alloc];exact HB.out) ?_);intro v1 w1 hown1 hb1 _)
   go_roundw
   case rel=>
    refine⟨k+1,by omega,by go_num,by rw[HX.out];exact hown1,((hb.alloc (by omega) _).alloc (by simp;omega) _).trans hb1⟩
   case measure=>simp[intOf];omega
  ·obtain rfl:k=es.length:=by omega
   clear hl1
   rw[List.take_of_length_le (Nat.le_refl _)]at hown
   have hw1:wr.cell? ⟨w.heap.size,1,none⟩=some (.slice A2 ks.length m):=by rw[hb.cell (p:=⟨w.heap.size,1,none⟩) (by simp)];simp
   go_wp2_with fail
   obtain⟨wo,rfl⟩:∃ wo:World,wo=wr:=⟨_,rfl⟩
   go_loopw [3,24] (fun v i wr=>∃ k:Nat,k<=ks.length/\i=.int .i64 k/\OwnP wr (w.heap.size+1) 52 2 DtE v (es.map En.dot++Tr.dotsL (ks.take k)) /\
     Below (w.heap.size+1) (w.alloc (.cells #[.slice A1 es.length n,.slice A2 ks.length m] 25)) wr) (fun _ i _=>ks.length-(intOf i).toNat)
   case atStart=>exact⟨0,Nat.zero_le _,rfl,by simpa[Tr.dotsL] using hown,hb⟩
   case round=>
    obtain⟨k,hk,rfl,hown,hb⟩:=hrel
    clear hw1
    have hsz:=hb.size
    simp only[World.size_alloc]at hsz
    by_cases hlt:k<ks.length
    ·obtain⟨⟨key,t⟩,hx⟩:∃ x,ks[k]?=some x:=⟨_,List.getElem?_eq_getElem hlt⟩
     obtain⟨b,off,rfl,hbB,hc⟩:=c3 (by rintro rfl;simp at hlt)
     obtain⟨cs,⟨ve',vk',rfl,hkb,hrd⟩,_,hu⟩:=hc k _ hx
     obtain⟨A3,n3,A4,n4,rfl,rfl⟩:=Qk hrd
     have hbo:∀ o,wr.cell? ⟨b,o,none⟩=w.cell? ⟨b,o,none⟩:=fun o=>(hb.cell (p:=⟨b,o,none⟩) (by simp;omega)).trans (World.cell?_alloc_lt _ _ _ hbB)
     have e0:wr.cell? ⟨b,off+k*3,none⟩=some (.string key):=(hbo _).trans (hu 0 _ rfl)
     have e1:wr.cell? ⟨b,off+k*3+1,none⟩=some (.slice A3 t.es.length n3):=(hbo _).trans (hu 1 _ rfl)
     have e2:wr.cell? ⟨b,off+k*3+2,none⟩=some (.slice A4 t.ks.length n4):=(hbo _).trans (hu 2 _ rfl)
     have hmem:(key,t)∈ks:=List.mem_of_getElem? hx
     have hB0:Below w.heap.size w wr:=((Below.refl _ w).alloc (Nat.le_refl _) _).trans (hb.mono (by omega))
     have HR:Hid (∀ o,t.rd (wr.alloc o) (wr.alloc o).heap.size (.slice A3 t.es.length n3) (.slice A4 t.ks.length n4)):=fun o=>Qg (hB0.alloc (by omega) _) (by simp;omega) _ _ _ hrd
     have hdl:=Vm hx
     have hln:=V7 (ks:=ks) (k+1)
     have HX:Hid (es.map En.dot++Tr.dotsL (ks.take (k+1))=es.map En.dot++Tr.dotsL (ks.take k)++t.dots):=by unfold Hid;rw[hdl,List.append_assoc]
     have HL:Hid ((es.map En.dot++Tr.dotsL (ks.take k)).length+t.dots.length<=Few):=by
      unfold Hid Few;rw[hdl]at hln;simp at hln ⊢;omega
     have hu1:t.dots.length<=1000000:=by have:=HL.out;unfold Few at this;omega
     clear hu hbo hx hc c3 hrd hdl hln
     go_wp2_with (first
      |(go_at_call 144;refine (ih key t hmem _ _ _ (HR.out _) hu1).mono ?_;rintro e w2 ⟨v2,rfl,hv2,hb2⟩;have hs2:=hb2.size;simp only[World.size_alloc]at hs2)
      |(at_builtin;refine Qj rfl (.tmp 28) (.tmp 31) _ rfl eiDot (by decide) (by decide) (fun _ _ h=>h.one) rfl ((hown.alloc _).grow hb2) rfl (hv2.sl (by unfold Big;omega)) HL.out (by omega) ?_;intro v1 w1 hown1 hb3 _))
     go_roundw
     case rel=>
      refine⟨k+1,by omega,by go_num,by rw[HX.out];exact hown1,((hb.alloc (by omega) _).trans (hb2.mono (by simp;omega))).trans hb3⟩
     case measure=>simp[intOf];omega
    ·obtain rfl:k=ks.length:=by omega
     rw[List.take_of_length_le (Nat.le_refl _)]at hown
     go_wp2_with fail
     go_ret
     have hz:=hown.mono (Nat.le_succ w.heap.size)
     refine⟨_,rfl,by rw[Tr.dots];exact hz,((Below.refl _ w).alloc (Nat.le_refl _) _).trans (hb.mono (by omega))⟩
theorem OwnP.fresh1 {α:Type}{w:World}{base n:Nat}{e:TypeId}{sz:Nat}{E:α->List Value->Prop}{x:α}{cs:List Value}(hE:E x cs)(hl:cs.length=sz)(h:w.heap[n]?=some (.cells cs.toArray e (0,0)))(hb:base<=n):OwnP w base e sz E (.slice (some ⟨n,0,none⟩) 1 1) [x]:=by
 subst hl
 refine⟨[cs],⟨rfl,fun j y hy=>?_⟩,by simp,.inr ⟨n,1,cs.toArray,rfl,hb,h,Nat.le_refl _,by simp[maxLen],by simp,by simp⟩⟩
 match j,hy with
 |0,hy=>simp at hy;subst hy;exact⟨cs,rfl,hE,rfl⟩
theorem Vo (d:Dt)(w:World)(h:d.Ok) :
  Calls Tryz.prog 107 #[.agg #[.int .i64 d.dc,.int .i64 d.n]] w (RetO w 45 3 (fun _=>SpE) [⟨d.dc,d.n,d.n⟩]):=by
 go_enter Tryz.func107,Tryz.ntmps107
 go_wp2_with fail
 go_ret
 exact⟨_,rfl,OwnP.fresh1 (cs:=[.int .i64 d.dc,.int .i64 d.n,.int .i64 d.n]) ⟨rfl,h.dc,h.n,h.n⟩ rfl (Qh (by simp)) (by omega),((Below.refl _ w).alloc (Nat.le_refl _) _).alloc (by simp) _⟩
mutual
def Tr.dep:Tr->Nat|.mk _ ks=>Tr.depL ks+1
def Tr.depL:List (ByteArray×Tr)->Nat|[]=>0|(_,t) :: ks=>max t.dep (Tr.depL ks)
end
theorem qQe:∀ {ks:List Kd}{k:ByteArray}{t:Tr},(k,t)∈ks->t.dep<=Tr.depL ks
 |(k',t') :: ks,k,t,h=>by
  rw[Tr.depL]
  rcases List.mem_cons.1 h with e|e
  ·cases e;exact Nat.le_max_left _ _
  ·exact Nat.le_trans (qQe e) (Nat.le_max_right _ _)
def QB (ls:Nat->List (Int×Int))(k:Nat):List Sp:=(List.range k).flatMap fun (dc:Nat)=>Qt (dc:Int) (ls dc)
theorem Zb (ls:Nat->List (Int×Int))(k:Nat):QB ls (k+1)=QB ls k++Qt (k:Int) (ls k):=by
 unfold QB;rw[List.range_succ,List.flatMap_append];simp
theorem Xs (ls:Nat->List (Int×Int))(n:Nat)(h:∀ i,i<4->(ls i).length<=n):∀ k,k<=4->(QB ls k).length<=k*n
 |0,_=>by simp[QB]
 |k+1,hk=>by
  rw[Zb,List.length_append,Nat.add_mul]
  have:=Xs ls n h k (by omega)
  have h2:=h k (by omega)
  unfold Qt;rw[List.length_map];omega
theorem Jo (ls:Nat->List (Int×Int))(vs:Nat->Value)(w:World)(h:∀ i,i<4->SlP w w.heap.size 2 RuE (vs i) (ls i))(hN:∀ i,i<4->(ls i).length<=200000) :
  Calls Tryz.prog 116 #[.agg #[vs 0,vs 1,vs 2,vs 3]] w (RetO w 45 3 (fun _=>SpE) (QB ls 4)):=by
 obtain⟨A0,m0,g0,_⟩:=h 0 (by omega)
 obtain⟨A1,m1,g1,_⟩:=h 1 (by omega)
 obtain⟨A2,m2,g2,_⟩:=h 2 (by omega)
 obtain⟨A3,m3,g3,_⟩:=h 3 (by omega)
 have G0:=hid g0
 have G1:=hid g1
 have G2:=hid g2
 have G3:=hid g3
 have H:=hid h
 simp only[g0,g1,g2,g3]
 clear g0 g1 g2 g3 h
 go_enter Tryz.func116,Tryz.ntmps116
 go_wp2_with fail
 go_loopw [3,9] (fun v i wr=>∃ k:Nat,k<=4/\i=.int .i64 k/\OwnP wr (w.heap.size+1) 45 3 SpE v (QB ls k)/\Below w.heap.size w wr) (fun _ i _=>4-(intOf i).toNat)
 case atStart=>exact⟨0,Nat.zero_le _,rfl,OwnP.nil,(Below.refl _ _).alloc (Nat.le_refl _) _⟩
 case round=>
  obtain⟨k,hk,rfl,hown,hb⟩:=hrel
  have hsz:=hb.size
  by_cases hlt:k<4
  ·obtain⟨A,n,gv,b1,b2,b3⟩:=H.out k hlt
   have hNk:=hN k hlt
   have hidx:∀ w,(Instr.index 150 (.agg #[.slice A0 (ls 0).length m0,.slice A1 (ls 1).length m1,.slice A2 (ls 2).length m2,.slice A3 (ls 3).length m3]) (.int .i64 (k:Int))).run Tryz.prog w=.ok (.slice A (ls k).length n) w:=fun w=>by
    rw[←gv]
    match k,hlt with
    |0,_=>rw[G0.out];rfl
    |1,_=>rw[G1.out];rfl
    |2,_=>rw[G2.out];rfl
    |3,_=>rw[G3.out];rfl
   have hkl:decide ((k:Int)<4)=true:=by simp;omega
   have HK:=hid (Zb ls k)
   have hwl:=Xs ls 200000 hN k hk
   have hwl2:(QB ls k).length<=600000:=by omega
   clear gv hwl
   unfold Big at b2
   go_wp2_with fail
   obtain⟨wo,rfl⟩:∃ wo:World,wo=wr:=⟨_,rfl⟩
   go_loopw [3,15] (fun v i wr=>∃ j:Nat,j<=(ls k).length/\i=.int .i64 j/\OwnP wr (w.heap.size+1) 45 3 SpE v (QB ls k++Qt (k:Int) ((ls k).take j))/\Below w.heap.size w wr) (fun _ i _=>(ls k).length-(intOf i).toNat)
   case atStart=>exact⟨0,Nat.zero_le _,rfl,by simpa[Qt] using hown,hb⟩
   case round=>
    obtain⟨j,hj,rfl,hown,hb⟩:=hrel
    have hsz:=hb.size
    have hsz1:w.heap.size+1<=wr.heap.size+1:=by omega
    by_cases hjl:j<(ls k).length
    ·obtain⟨x,hx⟩:∃ x,(ls k)[j]?=some x:=⟨_,List.getElem?_eq_getElem hjl⟩
     obtain⟨b,off,rfl,hbB,hc⟩:=b3 (by intro e;rw[e]at hjl;simp at hjl)
     obtain⟨cs,⟨rfl,hok⟩,_,hu⟩:=hc j _ hx
     have e0:wr.cell? ⟨b,off+j*2,none⟩=some (.int .i64 x.1):=(hb.cell hbB).trans (hu 0 _ rfl)
     have e1:wr.cell? ⟨b,off+j*2+1,none⟩=some (.int .i64 x.2):=(hb.cell hbB).trans (hu 1 _ rfl)
     have HX:Hid (QB ls k++Qt (k:Int) ((ls k).take (j+1))=(QB ls k++Qt (k:Int) ((ls k).take j))++[⟨k,x.1,x.2⟩]):=by unfold Hid Qt;rw[Q5 hx,List.map_append,List.append_assoc];rfl
     have HL:Hid ((QB ls k++Qt (k:Int) ((ls k).take j)).length + [(⟨k,x.1,x.2⟩:Sp)].length<=Few):=by
      unfold Hid Few Qt;simp;omega
     have J0:Hid (SpE ⟨k,x.1,x.2⟩ [.int .i64 (k:Int),.int .i64 x.1,.int .i64 x.2]):=⟨rfl,⟨by show _<=(k:Int);omega,by show (k:Int)<=_;omega⟩,hok.1,hok.2⟩
     clear hu hx hc b3 hok
     go_wp2_with (at_builtin;go_loud ((refine Qj rfl (.tmp 19) (.tmp 26) _ rfl Kq (by decide) (by decide) (fun _ _ h=>h.one) rfl ((hown.alloc _).alloc _) rfl (SlP.one J0.out rfl _ (by simp)) HL.out (by rw[World.size_alloc,World.size_alloc];omega) ?_);intro v1 w1 hown1 hb1 _))
     go_roundw
     case rel=>exact⟨j+1,by omega,by go_num,by rw[HX.out];exact hown1,(((hb.alloc hsz _).alloc (by rw[World.size_alloc];omega) _).trans (hb1.mono (by omega)))⟩
     case measure=>simp[intOf];omega
    ·obtain rfl:j=(ls k).length:=by omega
     rw[List.take_of_length_le (Nat.le_refl _)]at hown
     go_wp2_with fail
     go_roundw
     case rel=>exact⟨k+1,by omega,by go_num,by rw[HK.out];exact hown,hb⟩
     case measure=>simp[intOf];omega
  ·obtain rfl:k=4:=by omega
   go_wp2_with fail
   go_ret
   exact⟨_,rfl,hown.mono (by omega),hb⟩
def hasC (c:List Sp)(d:Dt):Bool:=d.right&&hasL (partL c d.dc) d.n
theorem Vr (c:List Sp)(d:Dt)(vc:Value)(w:World)(h:SlP w w.heap.size 3 SpE vc c)(hN:c.length<=999999) :
  Calls Tryz.prog 65 #[vc,.agg #[.int .i64 d.dc,.int .i64 d.n]] w fun e w'=>e=.returned (.bool (hasC c d))/\Below w.heap.size w w':=by
 have HB:Hid (∀ w',Below (w.heap.size+1) (w.alloc (.cells #[.int .i64 d.dc,.int .i64 d.n] 52)) w'->Below w.heap.size w w'/\w'.cell? ⟨w.heap.size,0,none⟩=some (.int .i64 d.dc)/\w'.cell? ⟨w.heap.size,1,none⟩=some (.int .i64 d.n)):=fun w' hb=>
  ⟨((Below.refl _ w).alloc (Nat.le_refl _) _).trans (hb.mono (by omega)),by rw[hb.cell (p:=⟨w.heap.size,0,none⟩) (by simp)];simp,by rw[hb.cell (p:=⟨w.heap.size,1,none⟩) (by simp)];simp⟩
 have HC:Hid (∀ w',Below w.heap.size w w'->SlP w' w'.heap.size 3 SpE vc c):=fun w' hb=>h.imp hb hb.size (fun _ _ _ h=>h)
 obtain⟨A,n,rfl,_,_,_⟩:=h
 go_enter Tryz.func65,Tryz.ntmps65
 rcases hr:d.right
 ·have f0:=Qf (B:=w.heap.size+1) (HB.out _ (Below.refl _ _)).2.1 (by omega)
  have f1:=Qf (B:=w.heap.size+1) (HB.out _ (Below.refl _ _)).2.2 (by omega)
  go_upto_region 1 with (fail)
  refine Qc (w.heap.size+1) (by kernel_rfl) (by kernel_rfl) ?_
  repeat (go_big_quiet_step ((go_at_call 64;exact Calls.far_of (by simp) (hr▸QY d _))))
  refine wpQuiet_nil ?_
  intro wq hbq
  go_wp2_with fail
  go_ret
  exact⟨Qd (by rw[hasC,hr];rfl),(HB.out _ hbq).1⟩
 ·go_upto_region 1 with (fail)
  go_region_held3 (fun w'=>w'.cell? ⟨w.heap.size,0,none⟩=some (.int .i64 d.dc)/\w'.cell? ⟨w.heap.size,1,none⟩=some (.int .i64 d.n))
   (first|go_keep|exact (HB.out _ hb2).2|exact (HB.out _ hb1).2)
   (first
       |(go_at_call 64;refine (QY d _).mono ?_;rw[hr];rintro e w1 ⟨rfl,hb⟩;have hb1:Below (w.heap.size+1) (w.alloc (.cells #[.int .i64 d.dc,.int .i64 d.n] 52)) w1:=((Below.refl _ _).drew).trans (hb.mono (by simp)))
       |(go_at_call 113;go_loud ((refine (ZQ c d.dc _ w1 (HC.out _ (HB.out _ hb1).1) hN).mono ?_);rintro e w2 ⟨vp,rfl,ho,hb'⟩;have hb2:=hb1.trans (hb'.mono (by have:=hb1.size;simpa using this));have hsl:=ho.sl (by have:=QA c d.dc;unfold Big;omega)))
       |(go_at_call 112;go_loud ((refine (Yw (partL c d.dc) d.n _ w2 _ hsl).mono ?_);rintro e w3 ⟨rfl,rfl⟩)))
  go_wp2_with fail
  go_ret
  exact⟨Qd (by rw[hasC,hr];rfl),(HB.out _ hb2).1⟩
mutual
theorem room_sz:∀ (t:Tr) (left deep:Int),0<=t.room left deep->(t.sz:Int)+t.room left deep<=left
 |.mk es ks,left,deep,h=>by
  rw[Tr.room]at h ⊢
  have:=roomL_sz ks _ deep h
  rw[Tr.sz]
  push_cast
  omega
theorem roomL_sz:∀ (ks:List (ByteArray×Tr)) (left deep:Int),0<=Tr.roomL ks left deep->(Tr.szL ks:Int)-ks.length+Tr.roomL ks left deep<=left
 |[],left,deep,h=>by rw[Tr.roomL]at h ⊢;simp[Tr.szL]
 |(k,t) :: ks,left,deep,h=>by
  rw[Tr.roomL]at h ⊢
  split at h
  ·omega
  ·rename_i hc
   rw[if_neg hc]
   have h1:=roomL_sz ks _ deep h
   have hs:=JU ks
   by_cases h2:0<=t.room left (deep-1)
   ·have h3:=room_sz t left (deep-1) h2
    rw[Tr.szL];simp only[List.length_cons];push_cast;omega
   ·omega
end
def smlB (t:Tr)(n:Int):Bool:=decide (0<=t.room n 8)
theorem qJh {t:Tr}{n:Int}(h:smlB t n=true):(t.sz:Int)<=n:=by
 have h:=of_decide_eq_true h
 have:=room_sz t n 8 h
 omega
def sumE (es:List En):Int:=es.foldl (fun s e=>wrap64 (s+e.v)) 0
theorem JK {es:List En}{k:Nat}{x:En}(h:es[k]?=some x):sumE (es.take (k+1))=wrap64 (sumE (es.take k)+x.v):=by
 unfold sumE;rw[List.take_add_one,h,List.foldl_append];rfl
theorem VH (t:Tr)(w:World)(ve vk:Value)(h:t.rd w w.heap.size ve vk) :
  Calls Tryz.prog 25 #[.agg #[ve,vk]] w fun e w'=>e=.returned (.int .i64 (sumE t.es))/\Below w.heap.size w w':=by
 obtain⟨es,ks⟩:=t
 rw[QH]at h
 obtain⟨⟨A0,n0,rfl,d1,d2,d3⟩,⟨A,m,rfl,c1,c2,c3⟩⟩:=h
 unfold Big at c2 d2
 have hb0:Below w.heap.size w (w.alloc (.cells #[.slice A0 es.length n0,.slice A ks.length m] 25)):=(Below.refl _ w).alloc (Nat.le_refl _) _
 go_enter Tryz.func25,Tryz.ntmps25
 go_wp2_with fail
 go_loopw [3,8] (fun s i wr=>∃ k:Nat,k<=es.length/\i=.int .i64 k/\s=.int .i64 (sumE (es.take k))/\wr=w.alloc (.cells #[.slice A0 es.length n0,.slice A ks.length m] 25)) (fun _ i _=>es.length-(intOf i).toNat)
 case atStart=>exact⟨0,Nat.zero_le _,rfl,rfl,rfl⟩
 case round=>
  obtain⟨k,hk,rfl,rfl,rfl⟩:=hrel
  by_cases hlt:k<es.length
  ·obtain⟨x,hx⟩:∃ x,es[k]?=some x:=⟨_,List.getElem?_eq_getElem hlt⟩
   obtain⟨b,off,rfl,hbB,hc⟩:=d3 (by rintro rfl;simp at hlt)
   obtain⟨cs,⟨rfl,hok⟩,_,hu⟩:=hc k _ hx
   have e3:(w.alloc (.cells #[.slice (some ⟨b,off,none⟩) es.length n0,.slice A ks.length m] 25)).cell? ⟨b,off+k*4+3,none⟩=some (.int .i64 x.v):=(hb0.cell hbB).trans (hu 3 _ rfl)
   have HX:Hid (sumE (es.take (k+1))=wrap64 (sumE (es.take k)+x.v)):=JK hx
   generalize sumE (es.take k)=s at *
   clear hu hc d3 hx hb0
   go_wp2_with fail
   go_roundw
   case rel=>exact⟨k+1,by omega,by go_num,by rw[HX.out]<;>rfl,trivial⟩
   case measure=>simp[intOf];omega
  ·obtain rfl:k=es.length:=by omega
   rw[List.take_of_length_le (Nat.le_refl _)]
   go_wp2_with fail
   go_ret
   exact⟨rfl,hb0⟩
def valT (t:Tr):Int:=if t.right 5 then sumE t.es else 0
theorem XE (t:Tr)(w:World)(ve vk:Value)(h:t.rd w w.heap.size ve vk) :
  Calls Tryz.prog 29 #[.agg #[ve,vk]] w fun e w'=>e=.returned (.int .i64 (valT t))/\Below w.heap.size w w':=by
 have HC:Hid (∀ w',Below w.heap.size w w'->t.rd w' w'.heap.size ve vk):=fun w' hb=>Qg hb hb.size _ _ _ h
 obtain⟨es,ks⟩:=t
 rw[QH]at h
 obtain⟨⟨A0,n0,rfl,d1,d2,d3⟩,⟨A,m,rfl,_,_,_⟩⟩:=h
 unfold Big at d2
 have hb0:Below w.heap.size w (w.alloc (.cells #[.slice A0 es.length n0,.slice A ks.length m] 25)):=(Below.refl _ w).alloc (Nat.le_refl _) _
 go_enter Tryz.func29,Tryz.ntmps29
 go_wp2_with fail
 refine (QW (.mk es ks) _ _ _ (HC.out _ hb0)).mono ?_
 rintro e w1 ⟨rfl,hb1⟩
 have hs1:=hb1.size
 simp only[World.size_alloc]at hs1
 have hB1:Below w.heap.size w w1:=hb0.trans (hb1.mono (by simp))
 have c0:w1.cell? ⟨w.heap.size,0,none⟩=some (.slice A0 es.length n0):=by rw[hb1.cell (p:=⟨w.heap.size,0,none⟩) (by simp)];simp
 cases hr:Tr.right (.mk es ks) 5
 ·have HR:Hid (valT (.mk es ks)=0):=by unfold Hid valT;rw[hr];rfl
  clear hr hb1 hb0 d3
  go_wp2_with fail
  go_ret
  exact⟨QG HR.out.symm,hB1⟩
 ·have HR:Hid (valT (.mk es ks)=sumE es):=by unfold Hid valT;rw[hr];rfl
  clear hr hb1 hb0
  go_wp2_with fail
  go_loopw [3,11] (fun s i wr=>∃ k:Nat,k<=es.length/\i=.int .i64 k/\s=.int .i64 (sumE (es.take k))/\Below w.heap.size w wr) (fun _ i _=>es.length-(intOf i).toNat)
  case atStart=>exact⟨0,Nat.zero_le _,rfl,rfl,hB1⟩
  case round=>
   obtain⟨k,hk,rfl,rfl,hb⟩:=hrel
   have hsz:=hb.size
   by_cases hlt:k<es.length
   ·obtain⟨x,hx⟩:∃ x,es[k]?=some x:=⟨_,List.getElem?_eq_getElem hlt⟩
    obtain⟨b,off,rfl,hbB,hc⟩:=d3 (by rintro rfl;simp at hlt)
    obtain⟨cs,⟨rfl,hok⟩,_,hu⟩:=hc k _ hx
    have e0:wr.cell? ⟨b,off+k*4,none⟩=some (.int .i64 x.dc):=(hb.cell hbB).trans (hu 0 _ rfl)
    have e1:wr.cell? ⟨b,off+k*4+1,none⟩=some (.int .i64 x.n):=(hb.cell hbB).trans (hu 1 _ rfl)
    have e2:wr.cell? ⟨b,off+k*4+2,none⟩=some (.string x.s):=(hb.cell hbB).trans (hu 2 _ rfl)
    have e3:wr.cell? ⟨b,off+k*4+3,none⟩=some (.int .i64 x.v):=(hb.cell hbB).trans (hu 3 _ rfl)
    have HX:Hid (sumE (es.take (k+1))=wrap64 (sumE (es.take k)+x.v)):=JK hx
    generalize sumE (es.take k)=s at *
    clear hu hc d3 hx hok
    go_wp2_with fail
    go_roundw
    case rel=>exact⟨k+1,by omega,by go_num,by rw[HX.out]<;>rfl,hb.alloc hsz _⟩
    case measure=>simp[intOf];omega
   ·obtain rfl:k=es.length:=by omega
    rw[List.take_of_length_le (Nat.le_refl _)]
    go_wp2_with fail
    go_ret
    exact⟨QG HR.out.symm,hb⟩
structure Opr where
 path:List ByteArray
 act:Int
 s:ByteArray
 n:Int
 deriving DecidableEq,Inhabited
structure Vw where
 kind:Int
 on:Bool
 n:Int
 l:List ByteArray
 deriving DecidableEq,Inhabited
structure Opr.Ok (o:Opr):Prop where
 act:I64 o.act
 n:I64 o.n
 s:o.s.size<=Big
def OpE (w:World)(B:Nat)(o:Opr)(cs:List Value):Prop:=∃ vp,cs=[vp,.int .i64 o.act,.string o.s,.int .i64 o.n]/\SlP w B 1 StE vp o.path/\o.Ok
theorem OpE.up {w w':World}{B B':Nat}{o:Opr}{cs:List Value}(hb:Below B w w')(hB:B<=B')(h:OpE w B o cs):OpE w' B' o cs:=by
 obtain⟨vp,h1,h2,h3⟩:=h
 exact⟨vp,h1,h2.imp hb hB fun _ _ _ h=>h,h3⟩
def Zw (md:Region.Mode)(ops':Array Oper)(listed:Array Bool):Prop:=∀ (i:Nat) (x:Oper),ops'[i]?=some x->listed.getD i false=true->∀ e∈x.after,Region.binds md e=true->listed.getD e.on false=true
theorem qXv {l:Array Bool}{i j:Nat}(h:l.getD j false=true):(l.setIfInBounds i true).getD j false=true:=by
 simp only[Array.getD_eq_getD_getElem?,Array.getElem?_setIfInBounds]at h ⊢
 split
 ·split
  ·rfl
  ·rename_i h1 h2
   subst h1
   rw[Array.getElem?_eq_none (by omega)]at h;simp at h
 ·exact h
theorem Zw.step {md:Region.Mode}{ops':Array Oper}{listed:Array Bool}(h:Zw md ops' listed)(_:listed.size=ops'.size){i:Nat}(hi:i∈Region.ready md ops' listed):Zw md ops' (listed.setIfInBounds i true):=by
 intro j x hx hl e he hb
 obtain⟨_,y,hy,h2⟩:=mem_ready.1 hi
 refine qXv ?_
 by_cases hij:i=j
 ·subst hij
  rw[hx]at hy;cases hy
  exact h2 e he hb
 ·refine h j x hx ?_ e he hb
  simp only[Array.getD_eq_getD_getElem?,Array.getElem?_setIfInBounds,if_neg hij]at hl ⊢
  exact hl
theorem Zw.none {md:Region.Mode}{ops':Array Oper}(n:Nat):Zw md ops' (List.replicate n false).toArray:=by
 intro j x _ hl
 exfalso
 rw[Array.getD_eq_getD_getElem?]at hl
 simp only[List.getElem?_toArray,List.getElem?_replicate]at hl
 split at hl<;>simp at hl
theorem ZV {md:Region.Mode}{ops':Array Oper}(hord:∀ (j:Nat) (x:Oper),ops'[j]?=some x->∀ e∈x.after,Region.binds md e=true->e.on<j){listed:Array Bool}(hs:listed.size=ops'.size)(hr:Region.ready md ops' listed=[]):∀ j,j<ops'.size->listed.getD j false=true:=by
 intro j
 induction j using Nat.strongRecOn with
 |ind j ih=>
  intro hj
  cases hl:listed.getD j false with
  |true=>rfl
  |false=>
   have hx:ops'[j]?=some ops'[j]:=Array.getElem?_eq_getElem hj
   have:j∈Region.ready md ops' listed:=mem_ready.2 ⟨by simp[Array.getElem?_eq_getElem (hs▸hj:j<listed.size)]at hl ⊢;exact hl,_,hx,fun e he hb=>ih e.on (hord j _ hx e he hb) (Nat.lt_trans (hord j _ hx e he hb) hj)⟩
   rw[hr]at this;cases this
section
variable {P:Program}{Q:Exit->Act->World->Prop}{md:Region.Mode}{ops':Array Oper}{o:Oper}
theorem VI (hg:∀ (j:Nat) (x:Oper),ops'[j]?=some x->x.guard=none)(hord:∀ (j:Nat) (x:Oper),ops'[j]?=some x->∀ e∈x.after,Region.binds md e=true->e.on<j)(hlast:∀ j,j<ops'.size->(∃ e∈o.after,Region.binds md e=true/\e.on=j)∨∃ k x,ops'[k]?=some x/\(∃ e∈o.after,Region.binds md e=true/\e.on=k)/\∃ e∈x.after,Region.binds md e=true/\e.on=j)(hon:∀ e∈o.after,e.on<ops'.size)(hgo:o.guard=none) :
  ∀ (fuel:Nat) (listed:Array Bool) (a:Act) (w:World),listed.size=ops'.size->Zw md ops' listed->wpAny P md ops' (PopQ Q (wpList P (ops'.push o) Q [o])) fuel listed a w->wpAny P md (ops'.push o) Q (fuel+1) (listed.push false) a w:=by
 have hin:∀ (listed:Array Bool),listed.size=ops'.size->Zw md ops' listed->∀ i,i∈Region.ready md (ops'.push o) (listed.push false)->(i<ops'.size/\i∈Region.ready md ops' listed)∨(i=ops'.size/\Region.ready md ops' listed=[]):=by
  intro listed hs hdc i hi
  obtain⟨h1,x,hx,h2⟩:=mem_ready.1 hi
  have hlt:i<ops'.size+1:=by have:=(Array.getElem?_eq_some_iff.1 hx).1;simpa using this
  by_cases he:i<ops'.size
  ·refine .inl ⟨he,mem_ready.2 ⟨?_,x,?_,fun e hee hb=>?_⟩⟩
   ·simp only[Array.getD_eq_getD_getElem?,Array.getElem?_push,if_neg (show ¬i=listed.size by omega)]at h1 ⊢;exact h1
   ·rw[Array.getElem?_push,if_neg (by omega)]at hx;exact hx
   ·have hx2:ops'[i]?=some x:=by rw[Array.getElem?_push,if_neg (by omega)]at hx;exact hx
    have h3:=h2 e hee hb
    have h4:=hord i x hx2 e hee hb
    simp only[Array.getD_eq_getD_getElem?,Array.getElem?_push,if_neg (show ¬e.on=listed.size by omega)]at h3 ⊢;exact h3
  ·obtain rfl:i=ops'.size:=by omega
   refine .inr ⟨rfl,?_⟩
   have hxo:x=o:=by rw[Array.getElem?_push,if_pos rfl]at hx;exact (Option.some.inj hx).symm
   subst hxo
   rw[List.eq_nil_iff_forall_not_mem]
   intro j hj
   obtain⟨g1,y,hy,_⟩:=mem_ready.1 hj
   have hj':=(Array.getElem?_eq_some_iff.1 hy).1
   have hn:∀ k,k<ops'.size->(∃ e∈x.after,Region.binds md e=true/\e.on=k)->listed.getD k false=true:=fun k hk ⟨e,he1,he2,he3⟩=>by
    have h3:=h2 e he1 he2
    rw[he3]at h3
    simp only[Array.getD_eq_getD_getElem?,Array.getElem?_push,if_neg (show ¬k=listed.size by omega)]at h3 ⊢
    exact h3
   have hl:listed.getD j false=true:=by
    rcases hlast j hj' with h|⟨k,y',hy',h,e,he1,he2,he3⟩
    ·exact hn j hj' h
    ·have hk:=(Array.getElem?_eq_some_iff.1 hy').1
     have:=hdc k y' hy' (hn k hk h) e he1 he2
     rw[he3]at this;exact this
   simp only[Array.getD_eq_getD_getElem?]at hl g1
   rw[Array.getElem?_eq_getElem (show j<listed.size by omega)]at hl g1
   simp at hl g1;rw[hl]at g1;cases g1
 have hfin:∀ (listed:Array Bool),listed.size=ops'.size->Region.ready md ops' listed=[]->Region.ready md (ops'.push o) ((listed.push false).setIfInBounds ops'.size true)=[]:=by
  intro listed hs hr
  rw[List.eq_nil_iff_forall_not_mem]
  intro j hj
  obtain⟨g1,y,hy,_⟩:=mem_ready.1 hj
  have hj':j<ops'.size+1:=by have:=(Array.getElem?_eq_some_iff.1 hy).1;simpa using this
  by_cases he:j<ops'.size
  ·have:=ZV hord hs hr j he
   simp only[Array.getD_eq_getD_getElem?,Array.getElem?_setIfInBounds,Array.getElem?_push,if_neg (show ¬ops'.size=j by omega),if_neg (show ¬j=listed.size by omega)]at g1 this
   rw[Array.getElem?_eq_getElem (show j<listed.size by omega)]at g1 this
   simp at g1 this;rw[this]at g1;cases g1
  ·obtain rfl:j=ops'.size:=by omega
   simp[hs]at g1
 have hstep:∀ (fuel:Nat) (listed:Array Bool) (a:Act) (w:World),listed.size=ops'.size->Region.ready md ops' listed=[]->wpList P (ops'.push o) Q [o] a w->wpOp P (ops'.push o) Q ops'.size (wpAny P md (ops'.push o) Q fuel ((listed.push false).setIfInBounds ops'.size true)) a w:=by
  intro fuel listed a w hs hr h
  unfold wpOp
  rw[Array.getElem?_push,if_pos rfl]
  have hw:Region.wanted o (yielded (ops'.push o) a.tmps)=true:=by simp[Region.wanted,hgo]
  unfold wpList at h
  simp only[hw,if_true]at *
  have hK:∀ a w,wpList P (ops'.push o) Q [] a w->wpAny P md (ops'.push o) Q fuel ((listed.push false).setIfInBounds ops'.size true) a w:=fun a w hq=>by
   have:=hfin listed hs hr
   cases fuel with
   |zero=>exact⟨this,hq⟩
   |succ fuel=>exact⟨fun _=>hq,by rw[this];simp⟩
  rcases h with h|h
  ·exact .inl (Oper.wp_mono hK h)
  ·exact .inr h
 intro fuel
 induction fuel with
 |zero=>
  intro listed a w hs hdc h
  obtain⟨h1,h2⟩:=h
  refine⟨fun h0=>?_,fun i hi=>?_⟩
  ·exfalso
   have:ops'.size∈Region.ready md (ops'.push o) (listed.push false):=mem_ready.2 ⟨by simp[←hs],o,by simp,fun e he _=>by
    have:=ZV hord hs h1 e.on (hon e he)
    simp only[Array.getD_eq_getD_getElem?,Array.getElem?_push,if_neg (show ¬e.on=listed.size by have:=hon e he;omega)]at this ⊢;exact this⟩
   rw[h0]at this;cases this
  ·rcases hin listed hs hdc i hi with⟨_,h3⟩|⟨rfl,_⟩
   ·rw[h1]at h3;cases h3
   ·exact hstep 0 listed a w hs h1 h2
 |succ fuel ih=>
  intro listed a w hs hdc h
  obtain⟨h1,h2⟩:=h
  refine⟨fun h0=>?_,fun i hi=>?_⟩
  ·exfalso
   by_cases hr:Region.ready md ops' listed=[]
   ·have:ops'.size∈Region.ready md (ops'.push o) (listed.push false):=mem_ready.2 ⟨by simp[←hs],o,by simp,fun e he _=>by
     have:=ZV hord hs hr e.on (hon e he)
     simp only[Array.getD_eq_getD_getElem?,Array.getElem?_push,if_neg (show ¬e.on=listed.size by have:=hon e he;omega)]at this ⊢;exact this⟩
    rw[h0]at this;cases this
   ·obtain⟨i,hi⟩:=List.exists_mem_of_ne_nil _ hr
    obtain⟨g1,x,hx,g2⟩:=mem_ready.1 hi
    have hlt:=(Array.getElem?_eq_some_iff.1 hx).1
    have:i∈Region.ready md (ops'.push o) (listed.push false):=mem_ready.2 ⟨by
     simp only[Array.getD_eq_getD_getElem?,Array.getElem?_push,if_neg (show ¬i=listed.size by omega)]at g1 ⊢;exact g1,x,by rw[Array.getElem?_push,if_neg (by omega)];exact hx,fun e he hb=>by
     have h3:=g2 e he hb
     have h4:=hord i x hx e he hb
     simp only[Array.getD_eq_getD_getElem?,Array.getElem?_push,if_neg (show ¬e.on=listed.size by omega)]at h3 ⊢;exact h3⟩
    rw[h0]at this;cases this
  ·rcases hin listed hs hdc i hi with⟨hlt,h3⟩|⟨rfl,hr⟩
   ·refine Ku hg hlt (fun a w hk=>?_) (h2 i h3)
    have:=ih (listed.setIfInBounds i true) a w (by simpa using hs) (hdc.step hs h3) hk
    rw[show (listed.push false).setIfInBounds i true=(listed.setIfInBounds i true).push false from ?_]
    ·exact this
    ·apply Array.ext_getElem?
     intro j
     simp only[Array.getElem?_setIfInBounds,Array.getElem?_push,Array.size_setIfInBounds,Array.size_push]
     by_cases e1:i=j
     ·subst e1
      simp[show i<listed.size by omega,show ¬i=listed.size by omega,show i<listed.size+1 by omega]
     ·simp[e1]
   ·exact hstep (fuel+1) listed a w hs hr (h1 hr)
end
section
variable {P:Program}{Q:Exit->Act->World->Prop}
def qZp (ops':List Oper)(o:Oper)(j:Nat):Bool:=
 (o.after.any fun e=>Region.binds .any e&&(e.on==j))||(List.range ops'.length).any fun k=>(o.after.any fun e=>Region.binds .any e&&(e.on==k))&&match ops'[k]? with | some x=>x.after.any fun e=>Region.binds .any e&&(e.on==j) | none=>false
def popTB (ops':List Oper)(o:Oper):Bool:=
 ops'.all (fun x=>x.guard.isNone)&&o.guard.isNone&&((List.range ops'.length).all fun j=>match ops'[j]? with | some x=>x.after.all fun e=>!Region.binds .any e||decide (e.on<j) | none=>true) &&
  ((List.range ops'.length).all fun j=>qZp ops' o j)&&(o.after.all fun e=>decide (e.on<ops'.length))
theorem qZq {ops':List Oper}{o:Oper}{j:Nat}(h:qZp ops' o j=true):(∃ e∈o.after,Region.binds .any e=true/\e.on=j)∨∃ k x,ops'.toArray[k]?=some x/\(∃ e∈o.after,Region.binds .any e=true/\e.on=k)/\∃ e∈x.after,Region.binds .any e=true/\e.on=j:=by
 have ha:∀ (y:Oper) (k:Nat),(y.after.any fun e=>Region.binds .any e&&(e.on==k))=true->∃ e∈y.after,Region.binds .any e=true/\e.on=k:=fun y k h=>by
  simp only[Array.any_eq_true',Bool.and_eq_true,beq_iff_eq]at h
  exact h
 unfold qZp at h
 rw[Bool.or_eq_true]at h
 rcases h with h|h
 ·exact .inl (ha o j h)
 ·rw[List.any_eq_true]at h
  obtain⟨k,_,hk⟩:=h
  rw[Bool.and_eq_true]at hk
  obtain⟨h1,h2⟩:=hk
  split at h2
  ·rename_i x hx
   exact .inr ⟨k,x,by simpa using hx,ha o k h1,ha x j h2⟩
  ·cases h2
theorem YK {ops':List Oper}{o:Oper}(hc:popTB ops' o=true){fuel:Nat}{listed:Array Bool}{a:Act}{w:World}(hs:listed.size=ops'.length)(hd:Zw .any ops'.toArray listed)
  (h:wpAny P .any ops'.toArray (PopQ Q (wpList P (ops'++[o]).toArray Q [o])) fuel listed a w):wpAny P .any (ops'++[o]).toArray Q (fuel+1) (listed.push false) a w:=by
 unfold popTB at hc
 simp only[Bool.and_eq_true,List.all_eq_true,List.mem_range,Array.all_eq_true_iff_forall_mem,decide_eq_true_eq,Option.isNone_iff_eq_none]at hc
 obtain⟨⟨⟨⟨c1,c2⟩,c3⟩,c4⟩,c5⟩:=hc
 have ho':(ops'++[o]).toArray=ops'.toArray.push o:=by simp
 rw[ho']at h ⊢
 exact VI (md:=.any) (ops':=ops'.toArray) (o:=o) (P:=P) (Q:=Q) (fun j x hx=>c1 x (by simpa using List.mem_of_getElem? (by simpa using hx)))
  (fun j x hx e he hb=>by
   have hx':ops'[j]?=some x:=by simpa using hx
   have:=c3 j (List.getElem?_eq_some_iff.1 hx').1
   rw[hx']at this
   simp only[Array.all_eq_true_iff_forall_mem,decide_eq_true_eq,Bool.or_eq_true,Bool.not_eq_true']at this
   rcases this e he with h|h
   ·rw[hb]at h;cases h
   ·exact h)
  (fun j hj=>qZq (c4 j (by simpa using hj)))
  (fun e he=>by simpa using c5 e he) c2 fuel listed a w (by simpa using hs) hd h
theorem Ki {l:List Oper}{o:Oper}{n:Nat}:Zw .any (l++[o]).toArray ((List.replicate n false).toArray.push false):=by
 have:((List.replicate n false).toArray.push false)=(List.replicate (n+1) false).toArray:=by
  apply Array.ext'
  simp[List.replicate_succ']
 rw[this]
 exact Zw.none _
def pop2L (n:Nat)(l:List Oper):Bool:=match l.drop n with|[o1,o2]=>((l.take n).length==n)&&popTB (l.take n) o1&&popTB (l.take n++[o1]) o2|_=>false
theorem YP {S:World->Prop}{id:Nat}(n:Nat){l:List Oper}{a:Act}{w:World}(hm:P.follows .mixedOrders=true)(hc:pop2L n l=true)
  (h:wpAnyH P .any (l.take n).toArray (PopQ (PopQ Q (wpList P l.toArray Q (l.drop (n+1)))) (wpList P (l.take (n+1)).toArray (PopQ Q (wpList P l.toArray Q (l.drop (n+1)))) ((l.take (n+1)).drop n))) S n (List.replicate n false).toArray a w.drew):(Code.region id l.toArray true).wp P Q a w:=by
 unfold pop2L at hc
 split at hc
 ·rename_i o1 o2 ho
  simp only[Bool.and_eq_true,beq_iff_eq]at hc
  obtain⟨⟨hn,hc1⟩,hc2⟩:=hc
  have e1:l=l.take n++[o1,o2]:=by rw[←ho,List.take_append_drop]
  have e2:l.drop (n+1)=[o2]:=by rw[←List.drop_drop,ho];rfl
  have e3:l.take (n+1)=l.take n++[o1]:=by
   conv=>lhs;rw[e1]
   rw[List.take_append,hn,List.take_of_length_le (by rw[hn];omega),show n+1-n=1 by omega];rfl
  have e4:(l.take (n+1)).drop n=[o1]:=by rw[e3,List.drop_append,List.drop_of_length_le (by rw[hn];omega),hn];simp
  have e5:l=(l.take n++[o1])++[o2]:=by rw[List.append_assoc];exact e1
  rw[e2,e4,e3]at h
  have h1:=YK hc1 (by simp[hn]) (Zw.none _) (wpAny_of_held _ _ _ _ h)
  have h2:wpAny P .any ((l.take n++[o1])++[o2]).toArray Q (n+1+1) (((List.replicate n false).toArray.push false).push false) a w.drew:=by
   refine YK hc2 (by simp[hn]) Ki ?_
   rw[←e5]
   exact h1
  refine wp_region_any hm ?_
  have e6:l.toArray.size=n+1+1:=by rw[e1];simp[hn]
  have e7:Array.replicate l.toArray.size false=((List.replicate n false).toArray.push false).push false:=by
   apply Array.ext'
   rw[e6];simp[List.replicate_succ']
  rw[e7,e6]
  rw[←e5]at h2
  exact h2
 ·cases hc
def pop1L (n:Nat)(l:List Oper):Bool:=match l.drop n with|[o]=>((l.take n).length==n)&&popTB (l.take n) o|_=>false
theorem YQ {S:World->Prop}{id:Nat}(n:Nat){l:List Oper}{a:Act}{w:World}(hm:P.follows .mixedOrders=true)(hc:pop1L n l=true)
  (h:wpAnyH P .any (l.take n).toArray (PopQ Q (wpList P l.toArray Q (l.drop n))) S n (List.replicate n false).toArray a w.drew):(Code.region id l.toArray true).wp P Q a w:=by
 unfold pop1L at hc
 split at hc
 ·rename_i o ho
  simp only[Bool.and_eq_true,beq_iff_eq]at hc
  obtain⟨hn,hc1⟩:=hc
  have e1:l=l.take n++[o]:=by rw[←ho,List.take_append_drop]
  rw[ho]at h
  refine wp_region_any hm ?_
  have h2:wpAny P .any (l.take n++[o]).toArray Q (n+1) ((List.replicate n false).toArray.push false) a w.drew:=by
   refine YK hc1 (by simp[hn]) (Zw.none _) ?_
   rw[←e1]
   exact wpAny_of_held _ _ _ _ h
  have e6:l.toArray.size=n+1:=by rw[e1];simp[hn]
  have e7:Array.replicate l.toArray.size false=(List.replicate n false).toArray.push false:=by
   apply Array.ext'
   rw[e6];simp[List.replicate_succ']
  rw[e7,e6]
  rw[←e1]at h2
  exact h2
 ·cases hc
end
theorem X4:Tryz.prog.eqGuardType Tryz.prog.depth 45=false:=by kernel_rfl
theorem Xe:Tryz.prog.eqGuardType Tryz.prog.depth 92=false:=by kernel_rfl
theorem VR (x y:Sp)(w:World):(binOp .neq 45 (.agg #[.int .i64 x.dc,.int .i64 x.fr,.int .i64 x.hi]) (.agg #[.int .i64 y.dc,.int .i64 y.fr,.int .i64 y.hi])).run Tryz.prog w=.ok (.bool (!decide (x=y))) w:=by
 have u3:=Tryz.underlying3
 have u2:=Tryz.underlying2
 have hS:Tryz.prog.underlying 45=some (.struct (Tryz.prog.fieldsOf 45)):=by kernel_rfl
 have hp:Tryz.prog.stoodInHeld 45=false:=by kernel_rfl
 rw[run_neq_struct,show (10000:Nat)=9999+1 from rfl,run_equalIn_agg w 9999 45 _ _ hS hp]
 simp only[Program.fieldsOf,Tryz.underlying45]
 go_simp
 obtain⟨a,b,c⟩:=x;obtain⟨d,e,f⟩:=y
 by_cases h1:a=d<;>by_cases h2:b=e<;>by_cases h3:c=f<;>simp[h1,h2,h3]
theorem QR (a b:ByteArray):a.toList=b.toList↔a=b:=by
 rw[ByteArray.toList_eq,ByteArray.toList_eq]
 obtain⟨⟨x⟩⟩:=a;obtain⟨⟨y⟩⟩:=b
 simp
theorem Ks (x y:En)(w:World):(binOp .neq 92 (.agg #[.int .i64 x.dc,.int .i64 x.n,.string x.s,.int .i64 x.v]) (.agg #[.int .i64 y.dc,.int .i64 y.n,.string y.s,.int .i64 y.v])).run Tryz.prog w=.ok (.bool (!decide (x=y))) w:=by
 have u3:=Tryz.underlying3
 have u2:=Tryz.underlying2
 have u9:=Tryz.underlying9
 have u27:=Tryz.underlying52
 have hS:Tryz.prog.underlying 92=some (.struct (Tryz.prog.fieldsOf 92)):=by kernel_rfl
 have hp:Tryz.prog.stoodInHeld 92=false:=by kernel_rfl
 have hS2:Tryz.prog.underlying 52=some (.struct (Tryz.prog.fieldsOf 52)):=by kernel_rfl
 have hp2:Tryz.prog.stoodInHeld 52=false:=by kernel_rfl
 rw[run_neq_struct,show (10000:Nat)=9999+1 from rfl,run_equalIn_agg w 9999 92 _ _ hS hp]
 simp only[Program.fieldsOf,Tryz.underlying92]
 go_simp
 have hq:=fun (a b c d:Int) (w:World)=>run_equalIn_agg (P:=Tryz.prog) w 9998 52 #[.int .i64 a,.int .i64 b] #[.int .i64 c,.int .i64 d] hS2 hp2
 try simp only[hq,Program.fieldsOf,u27]
 go_simp
 obtain⟨a,b,s,c⟩:=x;obtain⟨d,e,u,f⟩:=y
 by_cases h1:a=d<;>by_cases h2:b=e<;>by_cases h3:c=f<;>by_cases h4:s=u<;>simp[h1,h2,h3,h4,QR]
theorem QO {α:Type}{xs ys:List α}{k:Nat}{x y:α}(hx:xs[k]?=some x)(hy:ys[k]?=some y)(h:xs.take k=ys.take k):xs.take (k+1)=ys.take (k+1)↔x=y:=by
 rw[List.take_add_one,List.take_add_one,hx,hy,h]
 simp
theorem JV (a b:List Sp)(va vb:Value)(w:World)(B:Nat)(ha:SlP w B 3 SpE va a)(hb:SlP w B 3 SpE vb b) :
  Calls Tryz.prog 54 #[va,vb] w fun e w'=>e=.returned (.bool (decide (a=b)))/\∃ n,w'=w.drewN n:=by
 obtain⟨A1,n1,rfl,b1,b2,b3⟩:=ha
 obtain⟨A2,n2,rfl,c1,c2,c3⟩:=hb
 unfold Big at b2 c2
 by_cases hl:a.length=b.length
 ·have hl':((a.length:Int) != (b.length:Int))=false:=by simp[hl]
  have HL:=hid hl
  clear hl
  have gg:=X4
  have nn:=VR
  go_enter Tryz.func54,Tryz.ntmps54
  go_wp2_with fail
  go_loopw [13] (fun i wr=>∃ k:Nat,k<=a.length/\i=.int .i64 k/\Hid (a.take k=b.take k)/\∃ n,wr=w.drewN n) (fun i _=>a.length-(intOf i).toNat)
  case atStart=>exact⟨0,Nat.zero_le _,rfl,rfl,0,rfl⟩
  case round=>
   obtain⟨k,hk,rfl,hrel,q,rfl⟩:=hrel
   by_cases hlt:k<a.length
   ·have hlt2:k<b.length:=by have:=HL.out;omega
    obtain⟨x,hx⟩:∃ x,a[k]?=some x:=⟨_,List.getElem?_eq_getElem hlt⟩
    obtain⟨y,hy⟩:∃ y,b[k]?=some y:=⟨_,List.getElem?_eq_getElem hlt2⟩
    obtain⟨ba,oa,rfl,hbA,hc⟩:=b3 (by rintro rfl;simp at hlt)
    obtain⟨bb,ob,rfl,hbB,hd⟩:=c3 (by rintro rfl;simp at hlt2)
    obtain⟨cs,⟨rfl,hok⟩,_,hu⟩:=hc k _ hx
    obtain⟨ds,⟨rfl,hok2⟩,_,hv⟩:=hd k _ hy
    have e0:w.cell? ⟨ba,oa+k*3,none⟩=some (.int .i64 x.dc):=hu 0 _ rfl
    have e1:w.cell? ⟨ba,oa+k*3+1,none⟩=some (.int .i64 x.fr):=hu 1 _ rfl
    have e2:w.cell? ⟨ba,oa+k*3+2,none⟩=some (.int .i64 x.hi):=hu 2 _ rfl
    have g0:w.cell? ⟨bb,ob+k*3,none⟩=some (.int .i64 y.dc):=hv 0 _ rfl
    have g1:w.cell? ⟨bb,ob+k*3+1,none⟩=some (.int .i64 y.fr):=hv 1 _ rfl
    have g2:w.cell? ⟨bb,ob+k*3+2,none⟩=some (.int .i64 y.hi):=hv 2 _ rfl
    have HT:=hid (QO hx hy hrel.out)
    have HXY:Hid (a=b->x=y):=fun e=>by subst e;rw[hx]at hy;exact Option.some.inj hy
    have hi1:((k:Int))<(a.length:Int):=by omega
    have hi2:((k:Int))<(b.length:Int):=by omega
    clear hu hv hc hd b3 c3 hx hy hok hok2
    rcases hxy:decide (x=y)
    ·have hne:x≠y:=by simpa using hxy
     go_wp2_with fail
     go_quiet (fail)
     go_wp2_with fail
     go_ret
     exact⟨Qd (by simpa using fun e=>hne (HXY.out e)),q+nq,by first|rfl|exact World.drewN_drewN _ _ _⟩
    ·have hE:=hid (of_decide_eq_true hxy)
     go_wp2_with fail
     go_quiet (fail)
     go_wp2_with fail
     go_roundw
     case rel=>exact⟨k+1,by omega,by go_num,HT.out.2 hE.out,q+nq,by first|rfl|exact World.drewN_drewN _ _ _⟩
     case measure=>simp[intOf];omega
   ·obtain rfl:k=a.length:=by omega
    have HR:=hid hrel.out
    clear hrel
    go_wp2_with fail
    go_ret
    refine⟨Qd ?_,q,rfl⟩
    have h1:=HR.out
    rw[List.take_of_length_le (Nat.le_refl _),List.take_of_length_le (by rw[HL.out];exact Nat.le_refl _)]at h1
    simp[h1]
 ·have hl':((a.length:Int) != (b.length:Int))=true:=by simp;omega
  have HL:=hid hl
  clear hl
  go_enter Tryz.func54,Tryz.ntmps54
  go_wp2_with fail
  go_ret
  refine⟨Qd ?_,0,rfl⟩
  have:a≠b:=fun e=>HL.out (by rw[e])
  simp[this]
def ZY (key:ByteArray)(x:Lf):Option Lf:=match x.1 with|[]=>none|q :: qs=>if q=key then some (qs,x.2) else none
def Qx (l:List Lf)(key:ByteArray):List Lf:=l.filterMap (ZY key)
theorem JW {l:List Lf}{k:Nat}{x:Lf}(h:l[k]?=some x)(key:ByteArray):Qx (l.take (k+1)) key=Qx (l.take k) key++(ZY key x).toList:=by
 unfold Qx
 rw[List.take_add_one,h,List.filterMap_append]
 cases hx:ZY key x<;>simp[hx]
theorem Yv (l:List Lf)(key:ByteArray):(Qx l key).length<=l.length:=List.length_filterMap_le _ _
theorem X5 (l:List Lf)(key:ByteArray)(okp:Nat->Prop)(vl:Value)(w:World)(h:SlP w w.heap.size 5 (LfA w (fun b=>okp b/\b<w.heap.size)) vl l)(hN:l.length<=900000) :
  Calls Tryz.prog 105 #[vl,.string key] w (RetD w 102 5 LfA okp (Qx l key)):=by
 obtain⟨A,c,rfl,l1,l2,l3⟩:=h
 unfold Big at l2
 go_enter Tryz.func105,Tryz.ntmps105
 go_wp2_with fail
 go_loopw [5,9] (fun v i wr=>∃ k:Nat,k<=l.length/\i=.int .i64 k/\OwnD wr w.heap.size 102 5 LfA (fun b=>okp b∨w.heap.size<=b) v (Qx (l.take k) key)/\Below w.heap.size w wr) (fun _ i _=>l.length-(intOf i).toNat)
 case atStart=>exact⟨0,Nat.zero_le _,rfl,OwnD.nil,Below.refl _ _⟩
 case round=>
  obtain⟨k,hk,rfl,hown,hb⟩:=hrel
  have hsz:=hb.size
  by_cases hlt:k<l.length
  ·obtain⟨⟨p,x⟩,hx⟩:∃ x,l[k]?=some x:=⟨_,List.getElem?_eq_getElem hlt⟩
   obtain⟨b,off,rfl,hbB,hc⟩:=l3 (by rintro rfl;simp at hlt)
   obtain⟨cs,⟨A7,c7,rfl,hp,hok⟩,_,hu⟩:=hc k _ hx
   have hut:=JW hx key
   have e0:wr.cell? ⟨b,off+k*5,none⟩=some (.slice A7 p.length c7):=(hb.cell hbB).trans (hu 0 _ rfl)
   have hlen:=Yv (l.take k) key
   have HLe:Hid ((Qx (l.take k) key).length<=900000):=by unfold Hid;simp at hlen;omega
   clear hlen
   cases p with
   |nil=>
    have HX:Hid (Qx (l.take (k+1)) key=Qx (l.take k) key):=by unfold Hid;rw[hut];simp[ZY]
    simp only[List.length_nil]at e0
    clear hu hx hc l3 hok hp hut
    go_wp2_with fail
    go_roundw
    case rel=>exact⟨k+1,by omega,by go_num,by rw[HX.out];exact hown,hb⟩
    case measure=>simp[intOf];omega
   |cons q qs=>
    obtain⟨A7',c7',hv7,m1,m2,m3⟩:=hp
    simp only[Value.slice.injEq]at hv7
    obtain⟨rfl,_,rfl⟩:=hv7
    obtain⟨b7,o7,rfl,hb7,hc7⟩:=m3 (by simp)
    unfold Big at m2
    simp only[List.length_cons]at e0 m1 m2
    have hb7':b7<wr.heap.size:=by have:=hb7.2;omega
    obtain⟨cs7,⟨rfl,hq7⟩,_,hu7⟩:=hc7 0 q rfl
    have e7:wr.cell? ⟨b7,o7,none⟩=some (.string q):=(hb.cell (p:=⟨b7,o7,none⟩) hb7.2).trans (by simpa using hu7 0 _ rfl)
    have e1:wr.cell? ⟨b,off+k*5+1,none⟩=some (.int .i64 x.dc):=(hb.cell hbB).trans (hu 1 _ rfl)
    have e2:wr.cell? ⟨b,off+k*5+2,none⟩=some (.int .i64 x.n):=(hb.cell hbB).trans (hu 2 _ rfl)
    have e3:wr.cell? ⟨b,off+k*5+3,none⟩=some (.string x.s):=(hb.cell hbB).trans (hu 3 _ rfl)
    have e4:wr.cell? ⟨b,off+k*5+4,none⟩=some (.int .i64 x.v):=(hb.cell hbB).trans (hu 4 _ rfl)
    by_cases h71:c7=1
    ·subst h71
     obtain rfl:qs=[]:=List.eq_nil_of_length_eq_zero (by omega)
     simp only[List.length_nil,Nat.zero_add]at e0 m1 m2
     by_cases hqk:q=key
     ·have hqk':(q.toList==key.toList)=true:=by rw[hqk];simp
      have HX:Hid (Qx (l.take (k+1)) key=Qx (l.take k) key++[(([]:List ByteArray),x)]):=by unfold Hid;rw[hut];simp[ZY,hqk]
      have HL:Hid ((Qx (l.take k) key).length + [(([]:List ByteArray),x)].length<=Few):=by have:=HLe.out;unfold Hid Few;simp;omega
      have HS:Hid (∀ w',Below w.heap.size wr w'->w'.cell? ⟨b,off+k*5,none⟩=some (.slice (some ⟨b7,o7,none⟩) 1 1)/\w'.cell? ⟨b,off+k*5+1,none⟩=some (.int .i64 x.dc)/\w'.cell? ⟨b,off+k*5+2,none⟩=some (.int .i64 x.n)/\w'.cell? ⟨b,off+k*5+3,none⟩=some (.string x.s)/\w'.cell? ⟨b,off+k*5+4,none⟩=some (.int .i64 x.v)):=fun w' hb'=>⟨(hb'.cell hbB).trans e0,(hb'.cell hbB).trans e1,(hb'.cell hbB).trans e2,(hb'.cell hbB).trans e3,(hb'.cell hbB).trans e4⟩
      have HQ:=hid hqk
      have hsl:Hid (∀ (A:Option Addr),(([]:List ByteArray)≠[]->A=some ⟨b7,o7+1,none⟩)->∀ (cq:Nat),0<=cq->∀ (W:World),Below w.heap.size wr W->wr.heap.size<=W.heap.size->SlA W (fun b=>(okp b∨w.heap.size<=b)/\b<W.heap.size/\u5.ownBlock≠some b) 1 StE (.slice A 0 cq) ([]:List ByteArray)):=fun A hA cq hcq W hW hWs=>
       ⟨A,cq,rfl,hcq,by first|(unfold Big;omega)|simp[Big],fun hn=>⟨b7,o7+1,hA hn,⟨.inl hb7.1,by omega,fun e=>by have:=(OwnD.lt hown b7 e).1;have:=hb7.2;omega⟩,fun j s hs=>by
        obtain⟨cs,h1,h2,h3⟩:=hc7 (j+1) s hs
        refine⟨cs,h1,h2,fun i u hi=>?_⟩
        rw[←h3 i u hi]
        rw[show o7+1+j*1+i=o7+(j+1)*1+i by omega]
        exact (hW.cell (p:=⟨b7,o7+(j+1)*1+i,none⟩) hb7.2).trans (hb.cell (p:=⟨b7,o7+(j+1)*1+i,none⟩) hb7.2)⟩⟩
      clear hu hx hc l3 hut hc7 hu7 m3 hqk
      go_upto_region 6 with (fail)
      go_region_held3 (fun w'=>w'.cell? ⟨b,off+k*5,none⟩=some (.slice (some ⟨b7,o7,none⟩) 1 1)/\w'.cell? ⟨b,off+k*5+1,none⟩=some (.int .i64 x.dc)/\w'.cell? ⟨b,off+k*5+2,none⟩=some (.int .i64 x.n)/\w'.cell? ⟨b,off+k*5+3,none⟩=some (.string x.s)/\w'.cell? ⟨b,off+k*5+4,none⟩=some (.int .i64 x.v))
       (first|go_keep|exact HS.out _ hq1)
       (first|(go_loud (refine VQ rfl (.tmp 30) (.tmp 43) _ rfl LfA.mon Kr (by decide) (by decide) rfl (hown.grow LfA.mon (((Below.refl _ wr).alloc (Nat.le_refl _) _).drew)) rfl (SlP.oneB (w:=wr.drew) (E:=LfA _ _) (x:=(([]:List ByteArray),x)) ⟨_,_,rfl,hsl.out _ (by first|exact fun hn=>absurd rfl hn|exact fun _=>rfl) _ (by omega) _ (((Below.refl _ wr).alloc hsz _).drew) (by simp),hok⟩ rfl _ rfl (by rw[World.size_drew,World.size_alloc];exact Nat.lt_succ_self _)) HL.out (by rw[World.size_drew,World.size_alloc];omega) ?_);intro v1 w1 hown1 hb1 hg1 _;have hq1:Below w.heap.size wr w1:=(((Below.refl _ wr).alloc hsz _).drew).trans hb1))
      go_wp2_with fail
      go_roundw
      case rel=>exact⟨k+1,by omega,by go_num,by rw[HX.out];exact hown1,hb.trans hq1⟩
      case measure=>simp[intOf];omega
     ·have hqk':(q.toList==key.toList)=false:=by simpa[QR] using hqk
      have HX:Hid (Qx (l.take (k+1)) key=Qx (l.take k) key):=by unfold Hid;rw[hut];simp[ZY,hqk]
      clear hu hx hc l3 hok hut hc7 hu7 m3 hqk
      go_wp2_with fail
      go_roundw
      case rel=>exact⟨k+1,by omega,by go_num,by rw[HX.out];exact hown,hb⟩
      case measure=>simp[intOf];omega
    ·have hi1:(1:Int)<=(qs.length:Int)+1:=by omega
     have hi2:(qs.length:Int)+1<=(c7:Int):=by omega
     by_cases hqk:q=key
     ·have hqk':(q.toList==key.toList)=true:=by rw[hqk];simp
      have HX:Hid (Qx (l.take (k+1)) key=Qx (l.take k) key++[(qs,x)]):=by unfold Hid;rw[hut];simp[ZY,hqk]
      have HL:Hid ((Qx (l.take k) key).length + [(qs,x)].length<=Few):=by have:=HLe.out;unfold Hid Few;simp;omega
      have HS:Hid (∀ w',Below w.heap.size wr w'->w'.cell? ⟨b,off+k*5,none⟩=some (.slice (some ⟨b7,o7,none⟩) (qs.length+1) c7)/\w'.cell? ⟨b,off+k*5+1,none⟩=some (.int .i64 x.dc)/\w'.cell? ⟨b,off+k*5+2,none⟩=some (.int .i64 x.n)/\w'.cell? ⟨b,off+k*5+3,none⟩=some (.string x.s)/\w'.cell? ⟨b,off+k*5+4,none⟩=some (.int .i64 x.v)):=fun w' hb'=>⟨(hb'.cell hbB).trans e0,(hb'.cell hbB).trans e1,(hb'.cell hbB).trans e2,(hb'.cell hbB).trans e3,(hb'.cell hbB).trans e4⟩
      have HQ:=hid hqk
      have hsl:Hid (∀ (A:Option Addr),(qs≠[]->A=some ⟨b7,o7+1,none⟩)->∀ (cq:Nat),qs.length<=cq->∀ (W:World),Below w.heap.size wr W->wr.heap.size<=W.heap.size->SlA W (fun b=>(okp b∨w.heap.size<=b)/\b<W.heap.size/\u5.ownBlock≠some b) 1 StE (.slice A qs.length cq) qs):=fun A hA cq hcq W hW hWs=>
       ⟨A,cq,rfl,hcq,by first|(unfold Big;omega)|simp[Big],fun hn=>⟨b7,o7+1,hA hn,⟨.inl hb7.1,by omega,fun e=>by have:=(OwnD.lt hown b7 e).1;have:=hb7.2;omega⟩,fun j s hs=>by
        obtain⟨cs,h1,h2,h3⟩:=hc7 (j+1) s hs
        refine⟨cs,h1,h2,fun i u hi=>?_⟩
        rw[←h3 i u hi]
        rw[show o7+1+j*1+i=o7+(j+1)*1+i by omega]
        exact (hW.cell (p:=⟨b7,o7+(j+1)*1+i,none⟩) hb7.2).trans (hb.cell (p:=⟨b7,o7+(j+1)*1+i,none⟩) hb7.2)⟩⟩
      clear hu hx hc l3 hut hc7 hu7 m3 hqk
      go_upto_region 6 with (fail)
      go_region_held3 (fun w'=>w'.cell? ⟨b,off+k*5,none⟩=some (.slice (some ⟨b7,o7,none⟩) (qs.length+1) c7)/\w'.cell? ⟨b,off+k*5+1,none⟩=some (.int .i64 x.dc)/\w'.cell? ⟨b,off+k*5+2,none⟩=some (.int .i64 x.n)/\w'.cell? ⟨b,off+k*5+3,none⟩=some (.string x.s)/\w'.cell? ⟨b,off+k*5+4,none⟩=some (.int .i64 x.v))
       (first|go_keep|exact HS.out _ hq1)
       (first|(go_loud (refine VQ rfl (.tmp 30) (.tmp 43) _ rfl LfA.mon Kr (by decide) (by decide) rfl (hown.grow LfA.mon (((Below.refl _ wr).alloc (Nat.le_refl _) _).drew)) rfl (SlP.oneB (w:=wr.drew) (E:=LfA _ _) (x:=(qs,x)) ⟨_,_,rfl,hsl.out _ (by first|exact fun hn=>absurd rfl hn|exact fun _=>rfl) _ (by omega) _ (((Below.refl _ wr).alloc hsz _).drew) (by simp),hok⟩ rfl _ rfl (by rw[World.size_drew,World.size_alloc];exact Nat.lt_succ_self _)) HL.out (by rw[World.size_drew,World.size_alloc];omega) ?_);intro v1 w1 hown1 hb1 hg1 _;have hq1:Below w.heap.size wr w1:=(((Below.refl _ wr).alloc hsz _).drew).trans hb1))
      go_wp2_with fail
      go_roundw
      case rel=>exact⟨k+1,by omega,by go_num,by rw[HX.out];exact hown1,hb.trans hq1⟩
      case measure=>simp[intOf];omega
     ·have hqk':(q.toList==key.toList)=false:=by simpa[QR] using hqk
      have HX:Hid (Qx (l.take (k+1)) key=Qx (l.take k) key):=by unfold Hid;rw[hut];simp[ZY,hqk]
      clear hu hx hc l3 hok hut hc7 hu7 m3 hqk
      go_wp2_with fail
      go_roundw
      case rel=>exact⟨k+1,by omega,by go_num,by rw[HX.out];exact hown,hb⟩
      case measure=>simp[intOf];omega
  ·obtain rfl:k=l.length:=by omega
   rw[List.take_of_length_le (Nat.le_refl _)]at hown
   go_wp2_with fail
   go_ret
   exact⟨_,rfl,hown,hb⟩
end Go.Proofs.YtidebdbjekijkaaGreat
namespace Go.Proofs.YtidebdbjekijkaaGreat
open Go.RowKit
open Classical in
noncomputable def trEq (s t:Tr):Bool:=decide (s=t)
theorem Yp {s t:Tr}:trEq s t=true↔s=t:=by simp[trEq]
theorem Zt {s t:Tr}:trEq s t=false↔s≠t:=by simp[trEq]
theorem Xa (s:Tr):∀ (t:Tr) (w:World) (ve vk ue uk:Value),s.rd w w.heap.size ve vk->t.rd w w.heap.size ue uk ->
  Calls Tryz.prog 53 #[.agg #[ve,vk],.agg #[ue,uk]] w fun e w'=>e=.returned (.bool (trEq s t))/\Below w.heap.size w w':=by
 induction s using Tr.ind with
 |h es ks ih=>
 rintro⟨es',ks'⟩ w ve vk ue uk h h'
 rw[QH]at h h'
 obtain⟨⟨A1,n1,rfl,b1,b2,b3⟩,⟨A2,n2,rfl,c1,c2,c3⟩⟩:=h
 obtain⟨⟨A3,n3,rfl,d1,d2,d3⟩,⟨A4,n4,rfl,f1,f2,f3⟩⟩:=h'
 unfold Big at b2 c2 d2 f2
 by_cases hl:es.length=es'.length
 case neg=>
  have hl':((es.length:Int) != (es'.length:Int))=true:=by simp;omega
  have HL:=hid hl
  clear hl
  go_enter Tryz.func53,Tryz.ntmps53
  go_wp2_with fail
  go_ret
  refine⟨Qd ?_,by go_grown⟩
  rw[eq_comm,Zt]
  rintro e;cases e;exact HL.out rfl
 by_cases hm:ks.length=ks'.length
 case neg=>
  have hl':((es.length:Int) != (es'.length:Int))=false:=by simp[hl]
  have hm':((ks.length:Int) != (ks'.length:Int))=true:=by simp;omega
  have HL:=hid hm
  clear hl hm
  go_enter Tryz.func53,Tryz.ntmps53
  go_wp2_with fail
  go_ret
  refine⟨Qd ?_,by go_grown⟩
  rw[eq_comm,Zt]
  rintro e;cases e;exact HL.out rfl
 have hl':((es.length:Int) != (es'.length:Int))=false:=by simp[hl]
 have hm':((ks.length:Int) != (ks'.length:Int))=false:=by simp[hm]
 have HL:=hid hl
 have HM:=hid hm
 clear hl hm
 go_enter Tryz.func53,Tryz.ntmps53
 go_wp2_with fail
 go_loopw [26] (fun i wr=>∃ k:Nat,k<=es.length/\i=.int .i64 k/\Hid (es.take k=es'.take k) /\
   Below (w.heap.size+1+1) ((w.alloc (.cells #[.slice A1 es.length n1,.slice A2 ks.length n2] 25)).alloc (.cells #[.slice A3 es'.length n3,.slice A4 ks'.length n4] 25)) wr) (fun i _=>es.length-(intOf i).toNat)
 case atStart=>exact⟨0,Nat.zero_le _,rfl,rfl,Below.refl _ _⟩
 case round=>
  obtain⟨k,hk,rfl,hrel,hb⟩:=hrel
  have hsz:=hb.size
  simp only[World.size_alloc]at hsz
  have hB0:Below w.heap.size w wr:=(((Below.refl _ w).alloc (Nat.le_refl _) _).alloc (by simp) _).trans (hb.mono (by omega))
  have hs0:wr.cell? ⟨w.heap.size,0,none⟩=some (.slice A1 es.length n1):=by rw[hb.cell (p:=⟨w.heap.size,0,none⟩) (by simp;omega)];rw[World.cell?_alloc_past _ _ _ (by simp),World.cell?_alloc_new];rfl
  have hs1:wr.cell? ⟨w.heap.size,1,none⟩=some (.slice A2 ks.length n2):=by rw[hb.cell (p:=⟨w.heap.size,1,none⟩) (by simp;omega)];rw[World.cell?_alloc_past _ _ _ (by simp),World.cell?_alloc_new];rfl
  have ht0:wr.cell? ⟨w.heap.size+1,0,none⟩=some (.slice A3 es'.length n3):=by rw[hb.cell (p:=⟨w.heap.size+1,0,none⟩) (by simp),World.cell?_alloc_at _ _ _ _ (by simp)];rfl
  have ht1:wr.cell? ⟨w.heap.size+1,1,none⟩=some (.slice A4 ks'.length n4):=by rw[hb.cell (p:=⟨w.heap.size+1,1,none⟩) (by simp),World.cell?_alloc_at _ _ _ _ (by simp)];rfl
  by_cases hlt:k<es.length
  ·have hlt2:k<es'.length:=by have:=HL.out;omega
   obtain⟨x,hx⟩:∃ x,es[k]?=some x:=⟨_,List.getElem?_eq_getElem hlt⟩
   obtain⟨y,hy⟩:∃ y,es'[k]?=some y:=⟨_,List.getElem?_eq_getElem hlt2⟩
   obtain⟨ba,oa,rfl,hbA,hc⟩:=b3 (by rintro rfl;simp at hlt)
   obtain⟨bb,ob,rfl,hbB,hd⟩:=d3 (by rintro rfl;simp at hlt2)
   obtain⟨cs,⟨rfl,hok⟩,_,hu⟩:=hc k _ hx
   obtain⟨ds,⟨rfl,hok2⟩,_,hv⟩:=hd k _ hy
   have q0:=Qf (B:=wr.heap.size) ((hB0.cell hbA).trans (hu 0 _ rfl)) (by omega)
   have q1:=Qf (B:=wr.heap.size) ((hB0.cell hbA).trans (hu 1 _ rfl)) (by omega)
   have q2:=Qf (B:=wr.heap.size) ((hB0.cell hbA).trans (hu 2 _ rfl)) (by omega)
   have q3:=Qf (B:=wr.heap.size) ((hB0.cell hbA).trans (hu 3 _ rfl)) (by omega)
   have p0:=Qf (B:=wr.heap.size) ((hB0.cell hbB).trans (hv 0 _ rfl)) (by omega)
   have p1:=Qf (B:=wr.heap.size) ((hB0.cell hbB).trans (hv 1 _ rfl)) (by omega)
   have p2:=Qf (B:=wr.heap.size) ((hB0.cell hbB).trans (hv 2 _ rfl)) (by omega)
   have p3:=Qf (B:=wr.heap.size) ((hB0.cell hbB).trans (hv 3 _ rfl)) (by omega)
   simp only[Nat.add_zero]at q0 p0
   have r0:=Qf (B:=wr.heap.size) hs0 (by omega)
   have r1:=Qf (B:=wr.heap.size) ht0 (by omega)
   have HT:=hid (QO hx hy hrel.out)
   have HXY:Hid (es=es'->x=y):=fun e=>by subst e;rw[hx]at hy;exact Option.some.inj hy
   have gg:=Xe
   have nn:=Ks x y
   have hi1:((k:Int))<(es.length:Int):=by omega
   have hi2:((k:Int))<(es'.length:Int):=by omega
   clear hu hv hc hd b3 d3 hx hy hok hok2
   rcases hxy:decide (x=y)
   ·have hne:x≠y:=by simpa using hxy
    go_upto_region 6 with (fail)
    refine Qc wr.heap.size (by kernel_rfl) (by kernel_rfl) ?_
    repeat (go_big_quiet_step (fail))
    refine wpQuiet_nil ?_
    intro wq hbq
    go_wp2_with fail
    go_ret
    refine⟨Qd ?_,hB0.trans (hbq.mono (by omega))⟩
    rw[eq_comm,Zt]
    rintro e;cases e;exact hne (HXY.out rfl)
   ·have hE:=hid (of_decide_eq_true hxy)
    go_upto_region 6 with (fail)
    refine Qc wr.heap.size (by kernel_rfl) (by kernel_rfl) ?_
    repeat (go_big_quiet_step (fail))
    refine wpQuiet_nil ?_
    intro wq hbq
    go_wp2_with fail
    go_roundw
    case rel=>exact⟨k+1,by omega,by go_num,HT.out.2 hE.out,hb.trans (hbq.mono (by omega))⟩
    case measure=>simp[intOf];omega
  ·obtain rfl:k=es.length:=by omega
   have HE:Hid (es=es'):=by
    have h1:=hrel.out
    rw[List.take_of_length_le (Nat.le_refl _),List.take_of_length_le (by rw[HL.out];exact Nat.le_refl _)]at h1
    exact h1
   clear hrel hs0 ht0 hB0 b3 d3 hlt
   go_wp2_with fail
   clear hs1 ht1 hsz
   obtain⟨wo,rfl⟩:∃ wo:World,wo=wr:=⟨_,rfl⟩
   go_loopw [44] (fun i wr=>∃ k:Nat,k<=ks.length/\i=.int .i64 k/\Hid (ks.take k=ks'.take k) /\
    Below (w.heap.size+1+1) ((w.alloc (.cells #[.slice A1 es.length n1,.slice A2 ks.length n2] 25)).alloc (.cells #[.slice A3 es'.length n3,.slice A4 ks'.length n4] 25)) wr) (fun i _=>ks.length-(intOf i).toNat)
   case atStart=>exact⟨0,Nat.zero_le _,rfl,rfl,hb⟩
   case round=>
    clear hb
    obtain⟨k,hk,rfl,hrel,hb⟩:=hrel
    have hsz:=hb.size
    simp only[World.size_alloc]at hsz
    have hB0:Below w.heap.size w wr:=(((Below.refl _ w).alloc (Nat.le_refl _) _).alloc (by simp) _).trans (hb.mono (by omega))
    by_cases hlt:k<ks.length
    ·have hlt2:k<ks'.length:=by have:=HM.out;omega
     obtain⟨⟨key,s1⟩,hx⟩:∃ x,ks[k]?=some x:=⟨_,List.getElem?_eq_getElem hlt⟩
     obtain⟨⟨key',t1⟩,hy⟩:∃ y,ks'[k]?=some y:=⟨_,List.getElem?_eq_getElem hlt2⟩
     obtain⟨ba,oa,rfl,hbA,hc⟩:=c3 (by rintro rfl;simp at hlt)
     obtain⟨bb,ob,rfl,hbB,hd⟩:=f3 (by rintro rfl;simp at hlt2)
     obtain⟨cs,⟨v1,v2,rfl,_,hrs⟩,_,hu⟩:=hc k _ hx
     obtain⟨ds,⟨u1,u2,rfl,_,hrt⟩,_,hv⟩:=hd k _ hy
     have hs1:wr.cell? ⟨w.heap.size,1,none⟩=some (.slice (some ⟨ba,oa,none⟩) ks.length n2):=by rw[hb.cell (p:=⟨w.heap.size,1,none⟩) (by simp;omega)];rw[World.cell?_alloc_past _ _ _ (by simp),World.cell?_alloc_new];rfl
     have ht1:wr.cell? ⟨w.heap.size+1,1,none⟩=some (.slice (some ⟨bb,ob,none⟩) ks'.length n4):=by rw[hb.cell (p:=⟨w.heap.size+1,1,none⟩) (by simp),World.cell?_alloc_at _ _ _ _ (by simp)];rfl
     have q0:=Qf (B:=wr.heap.size) ((hB0.cell hbA).trans (hu 0 _ rfl)) (by omega)
     have q1:=Qf (B:=wr.heap.size) ((hB0.cell hbA).trans (hu 1 _ rfl)) (by omega)
     have q2:=Qf (B:=wr.heap.size) ((hB0.cell hbA).trans (hu 2 _ rfl)) (by omega)
     have p0:=Qf (B:=wr.heap.size) ((hB0.cell hbB).trans (hv 0 _ rfl)) (by omega)
     have p1:=Qf (B:=wr.heap.size) ((hB0.cell hbB).trans (hv 1 _ rfl)) (by omega)
     have p2:=Qf (B:=wr.heap.size) ((hB0.cell hbB).trans (hv 2 _ rfl)) (by omega)
     simp only[Nat.add_zero]at q0 p0
     have r0:=Qf (B:=wr.heap.size) hs1 (by omega)
     have r1:=Qf (B:=wr.heap.size) ht1 (by omega)
     have HT:=hid (QO hx hy hrel.out)
     have HXY:Hid (ks=ks'->(key,s1)=(key',t1)):=fun e=>by subst e;rw[hx]at hy;exact Option.some.inj hy
     have hmem:(key,s1)∈ks:=List.mem_of_getElem? hx
     have HRS:Hid (∀ w',Below wr.heap.size wr w'->s1.rd w' w'.heap.size v1 v2):=fun w' hb'=>Qg (hB0.trans (hb'.mono (by omega))) (by have:=hb'.size;omega) _ _ _ hrs
     have HRT:Hid (∀ w',Below wr.heap.size wr w'->t1.rd w' w'.heap.size u1 u2):=fun w' hb'=>Qg (hB0.trans (hb'.mono (by omega))) (by have:=hb'.size;omega) _ _ _ hrt
     have hi1:((k:Int))<(ks.length:Int):=by omega
     have hi2:((k:Int))<(ks'.length:Int):=by omega
     clear hu hv hc hd c3 f3 hx hy hs1 ht1 hrs hrt
     rcases hxy:(key.toList==key'.toList)
     ·have hne:key≠key':=fun e=>by rw[e]at hxy;simp at hxy
      have hxy2:(key.toList != key'.toList)=true:=by simp[bne,hxy]
      go_upto_region 12 with (fail)
      refine Qc wr.heap.size (by kernel_rfl) (by kernel_rfl) ?_
      repeat (go_big_quiet_step (fail))
      refine wpQuiet_nil ?_
      intro wq hbq
      go_wp2_with fail
      go_ret
      refine⟨Qd ?_,hB0.trans (hbq.mono (by omega))⟩
      rw[eq_comm,Zt]
      rintro e;cases e;exact hne (Prod.mk.inj (HXY.out rfl)).1
     have hE:=hid ((QR key key').1 (by simpa using hxy))
     have hxy2:(key.toList != key'.toList)=false:=by simp[bne,hxy]
     rcases hst:trEq s1 t1
     ·have hne:=Zt.1 hst
      go_upto_region 12 with (fail)
      refine Qc wr.heap.size (by kernel_rfl) (by kernel_rfl) ?_
      repeat (go_big_quiet_step ((go_at_call 53;exact Calls.far_all (Nat.le_refl _) (fun w' hb'=>ih key s1 hmem t1 w' _ _ _ _ (HRS.out w' hb') (HRT.out w' hb')))))
      refine wpQuiet_nil ?_
      intro wq hbq
      go_wp2_with fail
      go_ret
      refine⟨Qd ?_,hB0.trans (hbq.mono (by omega))⟩
      rw[eq_comm,Zt]
      rintro e;cases e;exact hne (Prod.mk.inj (HXY.out rfl)).2
     ·have hF:=hid (Yp.1 hst)
      go_upto_region 12 with (fail)
      refine Qc wr.heap.size (by kernel_rfl) (by kernel_rfl) ?_
      repeat (go_big_quiet_step ((go_at_call 53;exact Calls.far_all (Nat.le_refl _) (fun w' hb'=>ih key s1 hmem t1 w' _ _ _ _ (HRS.out w' hb') (HRT.out w' hb')))))
      refine wpQuiet_nil ?_
      intro wq hbq
      go_wp2_with fail
      go_roundw
      case rel=>exact⟨k+1,by omega,by go_num,HT.out.2 (by rw[hE.out,hF.out]),hb.trans (hbq.mono (by omega))⟩
      case measure=>simp[intOf];omega
    ·obtain rfl:k=ks.length:=by omega
     have HK:Hid (ks=ks'):=by
      have h1:=hrel.out
      rw[List.take_of_length_le (Nat.le_refl _),List.take_of_length_le (by rw[HM.out];exact Nat.le_refl _)]at h1
      exact h1
     clear hrel
     go_wp2_with fail
     go_ret
     refine⟨Qd ?_,hB0⟩
     rw[eq_comm,Yp,HE.out,HK.out]
end Go.Proofs.YtidebdbjekijkaaGreat
namespace Go.Proofs.YtidebdbjekijkaaGreat
open Go.RowKit
theorem Kj (s t:Tr)(a b:List Sp)(ve vk ue uk va vb:Value)(w:World)(h:s.rd w w.heap.size ve vk)(h':t.rd w w.heap.size ue uk)(ha:SlP w w.heap.size 3 SpE va a)(hb:SlP w w.heap.size 3 SpE vb b) :
  Calls Tryz.prog 15 #[.agg #[ve,vk,va],.agg #[ue,uk,vb]] w fun e w'=>e=.returned (.bool (trEq s t&&decide (a=b)))/\Below w.heap.size w w':=by
 obtain⟨A1,n1,A2,n2,rfl,rfl⟩:=Qk h
 obtain⟨A3,n3,A4,n4,rfl,rfl⟩:=Qk h'
 have ha0:=ha
 have hb0:=hb
 obtain⟨A5,n5,rfl,_⟩:=ha
 obtain⟨A6,n6,rfl,_⟩:=hb
 have hB:Below w.heap.size w ((w.alloc (.cells #[.slice A1 s.es.length n1,.slice A2 s.ks.length n2,.slice A5 a.length n5] 29)).alloc (.cells #[.slice A3 t.es.length n3,.slice A4 t.ks.length n4,.slice A6 b.length n6] 29)):=((Below.refl _ w).alloc (Nat.le_refl _) _).alloc (by simp) _
 go_enter Tryz.func15,Tryz.ntmps15
 rcases hst:trEq s t
 ·go_wp2_with (go_at_call 53;refine (Xa s t _ _ _ _ _ (Qg hB hB.size _ _ _ h) (Qg hB hB.size _ _ _ h')).mono ?_;rw[hst];rintro e w1 ⟨rfl,hb1⟩)
  go_ret
  exact⟨Qd (by simp),hB.trans (hb1.mono hB.size)⟩
 ·go_wp2_with (first|(go_at_call 53;go_loud ((refine (Xa s t _ _ _ _ _ (Qg hB hB.size _ _ _ h) (Qg hB hB.size _ _ _ h')).mono ?_);rw[hst];rintro e w1 ⟨rfl,hb1⟩;have hc0:w1.cell? ⟨w.heap.size,2,none⟩=some (.slice A5 a.length n5):=(by rw[hb1.cell (p:=⟨w.heap.size,2,none⟩) (by simp;omega),World.cell?_alloc_past _ _ _ (by simp),World.cell?_alloc_new];rfl);have hc1:w1.cell? ⟨w.heap.size+1,2,none⟩=some (.slice A6 b.length n6):=(by rw[hb1.cell (p:=⟨w.heap.size+1,2,none⟩) (by simp),World.cell?_alloc_at _ _ _ _ (by simp)];rfl);have hB1:=hid (hB.trans (hb1.mono hB.size))))|(go_at_call 54;go_loud ((refine (JV a b _ _ w1 _ (ha0.imp hB1.out hB1.out.size (fun _ _ _ h=>h)) (hb0.imp hB1.out hB1.out.size (fun _ _ _ h=>h))).mono ?_);rintro e w2 ⟨rfl,q,rfl⟩)))
  go_ret
  exact⟨Qd (by simp),hB1.out.trans ⟨rfl,rfl,rfl,Nat.le_refl _,fun _ _=>rfl⟩⟩
def ltS (a b:ByteArray):Bool:=Op.bytesLess a.toList b.toList
theorem Qz (a:ByteArray):ltS a a=false:=by
 unfold ltS;rw[bytesLess_eq];simp[List.lt_irrefl]
theorem QI {a b c:ByteArray}(h:ltS a b=true)(k:ltS b c=true):ltS a c=true:=by
 unfold ltS at *;rw[bytesLess_eq]at *
 simp only[decide_eq_true_eq]at *
 exact List.lt_trans h k
theorem ZZ {a b:ByteArray}(h:ltS a b=false)(k:ltS b a=false):a=b:=by
 unfold ltS at *;rw[bytesLess_eq]at *
 simp only[decide_eq_false_iff_not,List.not_lt]at *
 exact (QR a b).1 (List.le_antisymm k h)
theorem qX8 (a b:ByteArray):ltS a b=(!Op.bytesLess b.toList a.toList&&!(b.toList==a.toList)):=by
 unfold ltS
 rw[bytesLess_eq,bytesLess_eq,Bool.eq_iff_iff]
 simp only[decide_eq_true_eq,Bool.and_eq_true,Bool.not_eq_true',decide_eq_false_iff_not,beq_eq_false_iff_ne,List.not_lt]
 constructor
 ·intro h;exact⟨List.le_of_lt h,fun e=>by rw[e]at h;exact List.lt_irrefl _ h⟩
 ·rintro⟨h,k⟩
  rcases Decidable.em (a.toList<b.toList) with h'|h'
  ·exact h'
  ·exact absurd (List.le_antisymm (List.not_lt.1 h') h) k
theorem Zl (a:Dt):a.lt a=false:=by simp[Dt.lt]
theorem X7 {a b c:Dt}(h:a.lt b=true)(k:b.lt c=true):a.lt c=true:=by
 unfold Dt.lt at *
 split at h<;>split at k<;>split<;>simp at *<;>omega
def selC (last:Option Dt)(b:Option En)(x:Lf):Bool:=
 x.1.isEmpty&&okP last x.2.dot&&(match b with|none=>true|some c=>x.2.dot.lt c.dot)
def selS (last:Option Dt)(b:Option En)(x:Lf):Option En:=if selC last b x then some x.2 else b
def bestE (l:List Lf)(last:Option Dt):Option En:=l.foldl (selS last) none
def Xh (l:List Lf):Nat->List En->List En
 |0,es=>es
 |n+1,es=>match bestE l (es.getLast?.map En.dot) with|none=>es|some e=>Xh l n (es++[e])
def Zy (l:List Lf):List En:=Xh l (l.length+1) []
def keyC (last b:ByteArray)(x:Lf):Bool:=match x.1 with | []=>false | q :: _=>ltS last q&&(decide (b=ByteArray.empty)||ltS q b)
def keyS (last b:ByteArray)(x:Lf):ByteArray:=if keyC last b x then x.1.headD ByteArray.empty else b
def bestK (l:List Lf)(last:ByteArray):ByteArray:=l.foldl (keyS last) ByteArray.empty
def ZO (f:List Lf->Tr)(l:List Lf):Nat->ByteArray->List Kd
 |0,_=>[]
 |n+1,last=>if bestK l last=ByteArray.empty then [] else (bestK l last,f (Qx l (bestK l last))) :: ZO f l n (bestK l last)
def Kt:Nat->List Lf->Tr
 |0,l=>.mk (Zy l) (ZO (fun _=>.mk [] []) l (l.length+1) ByteArray.empty)
 |d+1,l=>.mk (Zy l) (ZO (Kt d) l (l.length+1) ByteArray.empty)
def ahE (l:List Lf)(last:Option Dt):Nat:=(l.filter fun x=>okP last x.2.dot).length
def ahK (l:List Lf)(last:ByteArray):Nat:=(l.filter fun x=>match x.1 with|[]=>false|q :: _=>ltS last q).length
theorem VT (l:List Lf)(last:Option Dt):∀ (b:Option En),(∀ e,b=some e->okP last e.dot=true)->∀ e,l.foldl (selS last) b=some e->(b=some e∨∃ x∈l,x.1=[]/\x.2=e)/\okP last e.dot=true:=by
 induction l with
 |nil=>intro b hb e he;exact⟨.inl he,hb e he⟩
 |cons x l ih=>
  intro b hb e he
  rw[List.foldl_cons]at he
  by_cases hc:selC last b x=true
  ·have e1:selS last b x=some x.2:=by simp[selS,hc]
   rw[e1]at he
   simp only[selC,Bool.and_eq_true]at hc
   obtain⟨h1,h2⟩:=ih (some x.2) (fun e he=>by cases he;exact hc.1.2) e he
   refine⟨.inr ?_,h2⟩
   rcases h1 with h1|⟨y,hy,h3⟩
   ·cases h1;exact⟨x,by simp,by simpa using hc.1.1,rfl⟩
   ·exact⟨y,by simp[hy],h3⟩
  ·have e1:selS last b x=b:=by simp[selS,hc]
   rw[e1]at he
   obtain⟨h1,h2⟩:=ih b hb e he
   refine⟨?_,h2⟩
   rcases h1 with h1|⟨y,hy,h3⟩
   ·exact .inl h1
   ·exact .inr ⟨y,by simp[hy],h3⟩
theorem Xi {l:List Lf}{last:Option Dt}{e:En}(h:bestE l last=some e):(∃ x∈l,x.1=[]/\x.2=e)/\okP last e.dot=true:=by
 obtain⟨h1,h2⟩:=VT l last none (fun _ h=>by cases h) e h
 refine⟨?_,h2⟩
 rcases h1 with h1|h1
 ·cases h1
 ·exact h1
theorem Z0 {α:Type}{p q:α->Bool}:∀ {l:List α}{x:α},x∈l->(∀ y,q y=true->p y=true)->p x=true->q x=false->(l.filter q).length<(l.filter p).length
 |z :: l,x,hx,hpq,hp,hq=>by
  have hle:(l.filter q).length<=(l.filter p).length:=by
   clear hx
   induction l with
   |nil=>simp
   |cons u l ih=>
    simp only[List.filter_cons]
    cases h1:q u
    ·cases h2:p u<;>simp<;>omega
    ·simp[hpq u h1];omega
  simp only[List.filter_cons]
  rcases List.mem_cons.1 hx with rfl|hx
  ·simp[hp,hq];omega
  ·have:=Z0 hx hpq hp hq
   cases h1:q z
   ·cases h2:p z<;>simp<;>omega
   ·simp[hpq z h1];omega
theorem X8 {last:Option Dt}{a b:Dt}(h:okP last a=true)(k:a.lt b=true):okP last b=true:=by
 cases last with
 |none=>rfl
 |some q=>exact X7 h k
theorem qY9 {l:List Lf}{last:Option Dt}{e:En}(h:bestE l last=some e):ahE l (some e.dot)<ahE l last:=by
 obtain⟨⟨x,hx,_,rfl⟩,h2⟩:=Xi h
 exact Z0 hx (fun y hy=>X8 h2 hy) h2 (Zl _)
theorem qX9 (l:List Lf)(last:Option Dt):ahE l last<=l.length:=List.length_filter_le _ _
theorem VU (l:List Lf)(last:ByteArray):∀ (b:ByteArray),(b≠ByteArray.empty->ltS last b=true)->(l.foldl (keyS last) b=b∨∃ x∈l,∃ qs,x.1=l.foldl (keyS last) b :: qs)/\(l.foldl (keyS last) b≠ByteArray.empty->ltS last (l.foldl (keyS last) b)=true):=by
 induction l with
 |nil=>intro b hb;exact⟨.inl rfl,hb⟩
 |cons x l ih=>
  intro b hb
  rw[List.foldl_cons]
  by_cases hc:keyC last b x=true
  ·obtain⟨p,e⟩:=x
   cases p with
   |nil=>simp[keyC]at hc
   |cons q qs=>
    have e1:keyS last b (q :: qs,e)=q:=by simp[keyS,hc]
    rw[e1]
    simp only[keyC,Bool.and_eq_true]at hc
    obtain⟨h1,h2⟩:=ih q (fun _=>hc.1)
    refine⟨.inr ?_,h2⟩
    rcases h1 with h1|⟨y,hy,qs',h3⟩
    ·exact⟨_,List.mem_cons_self,qs,by rw[h1]⟩
    ·exact⟨y,by simp[hy],qs',h3⟩
  ·have e1:keyS last b x=b:=by simp[keyS,hc]
   rw[e1]
   obtain⟨h1,h2⟩:=ih b hb
   refine⟨?_,h2⟩
   rcases h1 with h1|⟨y,hy,h3⟩
   ·exact .inl h1
   ·exact .inr ⟨y,by simp[hy],h3⟩
theorem Xj {l:List Lf}{last:ByteArray}(h:bestK l last≠ByteArray.empty):(∃ x∈l,∃ qs,x.1=bestK l last :: qs)/\ltS last (bestK l last)=true:=by
 obtain⟨h1,h2⟩:=VU l last ByteArray.empty (fun h=>absurd rfl h)
 refine⟨?_,h2 h⟩
 rcases h1 with h1|h1
 ·exact absurd h1 h
 ·exact h1
theorem qJa {l:List Lf}{last:ByteArray}(h:bestK l last≠ByteArray.empty):ahK l (bestK l last)<ahK l last:=by
 obtain⟨⟨x,hx,qs,hq⟩,h2⟩:=Xj h
 refine Z0 hx (fun y hy=>?_) ?_ ?_
 ·revert hy
  cases y.1 with
  |nil=>exact fun h=>h
  |cons q _=>exact fun hy=>QI h2 hy
 ·rw[hq];exact h2
 ·rw[hq];exact Qz _
theorem qYa (l:List Lf)(last:ByteArray):ahK l last<=l.length:=List.length_filter_le _ _
theorem Vg {l:List Lf}{k:Nat}{x:Lf}(h:l[k]?=some x)(last:Option Dt)(b:Option En):(l.take (k+1)).foldl (selS last) b=selS last ((l.take k).foldl (selS last) b) x:=by
 rw[List.take_add_one,h,List.foldl_append];rfl
theorem Vh {l:List Lf}{k:Nat}{x:Lf}(h:l[k]?=some x)(last b:ByteArray):(l.take (k+1)).foldl (keyS last) b=keyS last ((l.take k).foldl (keyS last) b) x:=by
 rw[List.take_add_one,h,List.foldl_append];rfl
end Go.Proofs.YtidebdbjekijkaaGreat
