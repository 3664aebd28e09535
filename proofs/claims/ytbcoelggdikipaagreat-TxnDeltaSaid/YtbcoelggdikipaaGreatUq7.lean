/- What the laws need. No condition but those that each lemma states. -/
import Derived.Test.YtbcoelggdikipaaGreatUq6
import Derived.Test.YtbcoelggdikipaaGreatUq4
import Derived.Test.YtbcoelggdikipaaGreatUq2
import Derived.Test.YtbcoelggdikipaaGreatUq3
import Derived.Test.YtbcoelggdikipaaGreatUq5
set_option maxRecDepth 100000
set_option maxHeartbeats 8000000
set_option linter.unusedSimpArgs false
namespace Go.Proofs.YtbcoelggdikipaaGreat
open Go.RowKit
def OfA (l:List Dt)(w:World)(k:Nat)(wr:World):Prop:=
 ∃ vs:Nat->Value,Rows4 wr (w.heap.size+1) w.heap.size 183 2 1 InE vs (fun i=>numsL (l.take k) i)/\Below w.heap.size w wr
def OfB (l:List Dt)(w1:World)(k:Nat)(wr:World):Prop:=
 ∃ ps:Nat->Value,wr.heap[w1.heap.size]?=some (.cells #[ps 0,ps 1,ps 2,ps 3] 162 (0,0)) /\
  (∀ j,j<4->OwnP wr (w1.heap.size+1) 167 2 RuE (ps j) (if j<k then ofL (numsL l (j:Int)) else []))/\Below w1.heap.size w1 wr
theorem Jd (l:List Dt)(vl:Value)(w:World)(h:SlP w w.heap.size 2 DtE vl l)(hR:∀ d∈l,d.right=true)(hN:l.length<=100000) :
  Calls Tryz.prog 113 #[vl] w fun e w'=>∃ v,e=.returned (.tuple #[v,.int .i64 0])/\OwnP w' w.heap.size 45 3 SpE v (ctxOf l)/\Below w.heap.size w w':=by
 obtain⟨A,n,rfl,b1,b2,b3⟩:=h
 unfold Big at b2
 go_enter Tryz.func113,Tryz.ntmps113
 go_wp2_with fail
 go_loopw [12] (fun i wr=>∃ k:Nat,k<=l.length/\i=.int .i64 k/\OfA l w k wr) (fun i _=>l.length-(intOf i).toNat)
 case atStart=>exact⟨0,Nat.zero_le _,rfl,fun _=>.slice none 0 0,Rows4.start (Qd rfl) (by omega),(Below.refl _ w).alloc (Nat.le_refl _) _⟩
 case round=>
  obtain⟨k,hk,rfl,vs,hr4,hb⟩:=hrel
  have hsz:=hb.size
  have hsz2:w.heap.size<wr.heap.size:=(Array.getElem?_eq_some_iff.1 hr4.arr).1
  have hsz4:w.heap.size≠wr.heap.size:=by omega
  by_cases hlt:k<l.length
  ·obtain⟨⟨dc,num⟩,hx⟩:∃ x,l[k]?=some x:=⟨_,List.getElem?_eq_getElem hlt⟩
   obtain⟨b,off,rfl,hbB,hc⟩:=b3 (by rintro rfl;simp at hlt)
   obtain⟨cs,⟨rfl,hok⟩,_,hu⟩:=hc k _ hx
   have e0:wr.cell? ⟨b,off+k*2,none⟩=some (.int .i64 dc):=(hb.cell hbB).trans (hu 0 _ rfl)
   have e1:wr.cell? ⟨b,off+k*2+1,none⟩=some (.int .i64 num):=(hb.cell hbB).trans (hu 1 _ rfl)
   have hri:=hR _ (List.mem_of_getElem? hx)
   have hbd:(0<=dc/\dc<4)/\1<=num/\num<=1099511627776:=by simpa[Dt.right,and_assoc] using hri
   have HRI:=hid hri
   have HR4:=hid hr4
   obtain⟨d,rfl⟩:∃ d:Nat,dc=(d:Int):=⟨dc.toNat,by omega⟩
   have hd4:d<4:=by omega
   have hdi:(d:Int)<4:=by omega
   have HPD:Hid ((fun i:Nat=>numsL (l.take (k+1)) i)=fun i=>if i=d then numsL (l.take k) d++[num] else numsL (l.take k) i):=by
    unfold Hid;funext i
    rw[KN hx]
    by_cases e:i=d
    ·subst e;rw[if_pos rfl,if_pos rfl]
    ·rw[if_neg e,if_neg (by show ¬(d:Int)=(i:Int);omega),List.append_nil]
   have HL:Hid ((numsL (l.take k) d).length + [num].length<=Few):=by have:=ZS (l.take k) d;rw[List.length_take]at this;unfold Hid Few;simp;omega
   have HRE:Hid (InE num [.int .i64 num]):=⟨rfl,hok.n⟩
   have hbp:wr.cell? ⟨w.heap.size,d,none⟩=some (vs d):=HR4.out.at hd4
   have HLT:=hid ((HR4.out.own d hd4).lt)
   clear hu hx hc b3 hok hr4 hri hR
   go_upto_region 7 with (go_at_call 64;refine (Qy ⟨d,num⟩ _).mono ?_;rw[HRI.out];rintro e wd ⟨rfl,hbd'⟩;have hsd:=hbd'.size;simp only[World.size_alloc]at hsd)
   have HB1:Hid (Below wr.heap.size wr wd):=((Below.refl _ wr).alloc (Nat.le_refl _) _).trans (hbd'.mono (by simp))
   have hx0:wd.cell? ⟨wr.heap.size,0,none⟩=some (.int .i64 (d:Int)):=by rw[hbd'.cell (p:=⟨wr.heap.size,0,none⟩) (by simp)];simp
   have hx1:wd.cell? ⟨wr.heap.size,1,none⟩=some (.int .i64 num):=by rw[hbd'.cell (p:=⟨wr.heap.size,1,none⟩) (by simp)];simp
   have hxb:wd.heap[wr.heap.size]?=some (.cells #[.int .i64 (d:Int),.int .i64 num] 78 (0,0)):=(hbd'.block wr.heap.size (by simp)).trans (Qd rfl)
   have HXB:=hid hxb
   have hbp1:wd.cell? ⟨w.heap.size,d,none⟩=some (vs d):=(HB1.out.cell (p:=⟨w.heap.size,d,none⟩) hsz2).trans hbp
   have HR5:=hid (HR4.out.grow HB1.out)
   have hwd1:w.heap.size<wd.heap.size:=by omega
   have hwd2:w.heap.size≠wd.heap.size:=by omega
   have hwd3:wr.heap.size<wd.heap.size:=by omega
   have hwd4:wr.heap.size≠wd.heap.size:=by omega
   have HBW:=hid (hb.trans (HB1.out.mono hsz))
   clear hbp hxb hbd' e0 e1
   go_wp2_with fail
   refine ZV (S:=fun w'=>w'.cell? ⟨wr.heap.size,0,none⟩=some (.int .i64 (d:Int))/\w'.cell? ⟨wr.heap.size,1,none⟩=some (.int .i64 num)/\w'.cell? ⟨w.heap.size,d,none⟩=some (vs d)) 11 (by kernel_rfl) (by kernel_rfl) ?_
   simp only[List.take_succ_cons,List.take_zero,List.drop_succ_cons,List.drop_zero]
   have hHeld:(fun w':World=>w'.cell? ⟨wr.heap.size,0,none⟩=some (.int .i64 (d:Int))/\w'.cell? ⟨wr.heap.size,1,none⟩=some (.int .i64 num)/\w'.cell? ⟨w.heap.size,d,none⟩=some (vs d)) wd.drew:=by go_keep
   refine wpAnyH_take (i:=0) (oi:=_) (v:=?v0) rfl (by kernel_rfl) (by kernel_rfl) (by kernel_rfl) (fun _ _ _ h=>h) (Or.inl ⟨by rfl,?h0⟩) (by assumption) ?_
   case h0=>(intro w hSw;(try dsimp only at hSw);go_simp;(try with_reducible rfl))
   simp only[Act.put,List.setIfInBounds_toArray]
   refine wpAnyH_take (i:=1) (oi:=_) (v:=?v1) rfl (by kernel_rfl) (by kernel_rfl) (by kernel_rfl) (fun _ _ _ h=>h) (Or.inl ⟨by rfl,?h1⟩) (by assumption) ?_
   case h1=>(intro w hSw;(try dsimp only at hSw);go_simp;(try with_reducible rfl))
   simp only[Act.put,List.setIfInBounds_toArray]
   refine wpAnyH_take (i:=2) (oi:=_) (v:=?v2) rfl (by kernel_rfl) (by kernel_rfl) (by kernel_rfl) (fun _ _ _ h=>h) (Or.inl ⟨by rfl,?h2⟩) (by assumption) ?_
   case h2=>(intro w hSw;(try dsimp only at hSw);go_simp;(try with_reducible rfl))
   simp only[Act.put,List.setIfInBounds_toArray]
   refine wpAnyH_take (i:=3) (oi:=_) (v:=?v3) rfl (by kernel_rfl) (by kernel_rfl) (by kernel_rfl) (fun _ _ _ h=>h) (Or.inl ⟨by rfl,?h3⟩) (by assumption) ?_
   case h3=>(intro w hSw;(try dsimp only at hSw);go_simp;(try with_reducible rfl))
   simp only[Act.put,List.setIfInBounds_toArray]
   refine wpAnyH_take (i:=4) (oi:=_) (v:=?v4) rfl (by kernel_rfl) (by kernel_rfl) (by kernel_rfl) (fun _ _ _ h=>h) (Or.inl ⟨by rfl,?h4⟩) (by assumption) ?_
   case h4=>(intro w hSw;(try dsimp only at hSw);go_simp;(try with_reducible rfl))
   simp only[Act.put,List.setIfInBounds_toArray]
   refine wpAnyH_take (i:=5) (oi:=_) (v:=?v5) rfl (by kernel_rfl) (by kernel_rfl) (by kernel_rfl) (fun _ _ _ h=>h) (Or.inl ⟨by rfl,?h5⟩) (by assumption) ?_
   case h5=>(intro w hSw;(try dsimp only at hSw);go_simp;(try with_reducible rfl))
   simp only[Act.put,List.setIfInBounds_toArray]
   refine wpAnyH_take (i:=6) (oi:=_) (v:=?v6) rfl (by kernel_rfl) (by kernel_rfl) (by kernel_rfl) (fun _ _ _ h=>h) (Or.inl ⟨by rfl,?h6⟩) (by assumption) ?_
   case h6=>(intro w hSw;(try dsimp only at hSw);go_simp;(try with_reducible rfl))
   simp only[Act.put,List.setIfInBounds_toArray]
   refine wpAnyH_take (i:=7) (oi:=_) (v:=?v7) rfl (by kernel_rfl) (by kernel_rfl) (by kernel_rfl) (fun _ _ _ h=>h) (Or.inl ⟨by rfl,?h7⟩) (by assumption) ?_
   case h7=>(intro w hSw;(try dsimp only at hSw);go_simp;(try with_reducible rfl))
   simp only[Act.put,List.setIfInBounds_toArray]
   refine wpAnyH_ready (rs:=[8]) (by kernel_rfl) (by simp) ?_
   refine AllReadyH.cons (o:=_) rfl (fun K hK=>?_) AllReadyH.nil
   go_simp
   refine hK.out _ _ ?_ (fun hHeld8=>?_)
   ·go_keep
   clear hK K
   simp only[List.setIfInBounds_toArray]
   refine wpAnyH_ready (rs:=[9]) (by kernel_rfl) (by simp) ?_
   refine AllReadyH.cons (o:=_) rfl (fun K hK=>?_) AllReadyH.nil
   (refine qQb (v:=vs d) rfl (.tmp 24) (.tmp 27) _ rfl Vs (by decide) (by decide) (fun _ _ h=>h.one) rfl (((HR5.out.own d hd4).grow ((Below.refl _ wd).alloc (Nat.le_refl _) _)).drew) rfl (SlP.one (x:=num) HRE.out rfl _ (by simp)) HL.out (by simp;omega) ?_;intro v1 w4 hown4 hb4 hg4 hv4;have hsh4:=OwnP.shape hown4;simp only[List.length_append,List.length_singleton]at hsh4;obtain⟨A1,c1,hv1⟩:=hsh4;subst hv1;have hg4h:Hid (w4.heap[w.heap.size]?=some (.cells #[vs 0,vs 1,vs 2,vs 3] 183 (0,0))):=(hg4.block w.heap.size (by simp;omega) (fun e=>by have:=HLT.out _ e.symm;omega)).trans ((Qg hwd1).trans HR5.out.arr);have hc4:w4.cell? ⟨w.heap.size,d,none⟩=some (vs d):=(Qa hg4h.out).trans (ZK vs hd4);have hf4:w4.frozen? ⟨w.heap.size,d,none⟩=false:=Qb hg4h.out;have hx3:=(hg4.block wr.heap.size (by simp;omega) (fun e=>by have:=HLT.out _ e.symm;omega)).trans ((Qg hwd3).trans HXB.out);have hx4:Hid (w4.cell? ⟨wr.heap.size,0,none⟩=some (.int .i64 (d:Int))/\w4.cell? ⟨wr.heap.size,1,none⟩=some (.int .i64 num)/\w4.cell? ⟨w.heap.size,d,none⟩=some (vs d)):=⟨(Qa (i:=0) hx3).trans rfl,(Qa (i:=1) hx3).trans rfl,hc4⟩;clear hx3)
   refine hK.out _ _ ?_ (fun hHeld9=>?_)
   ·exact hx4.out
   clear hK K
   simp only[Act.put,List.setIfInBounds_toArray]
   refine wpAnyH_take (i:=10) (oi:=_) (v:=?v10) rfl (by kernel_rfl) (by kernel_rfl) (by kernel_rfl) (fun _ _ _ h=>h) (Or.inl ⟨by rfl,?h10⟩) (by assumption) ?_
   case h10=>(intro w hSw;(try dsimp only at hSw);go_simp;(try with_reducible rfl))
   simp only[Act.put,List.setIfInBounds_toArray]
   refine wpAnyH_done (by kernel_rfl) ?_ _
   change wpList _ _ _ _ _ _
   go_wp2_with fail
   go_roundw
   case rel=>
    refine⟨k+1,by omega,by go_num,fun i=>if i=d then .slice A1 ((numsL (l.take k) d).length+1) c1 else vs i,?_,?_⟩
    ·rw[HPD.out]
     exact Rows4.put (w:=(wd.alloc (.cells #[.int .i64 num] 2)).drew) ((HR5.out.grow ((Below.refl _ _).alloc (Nat.le_refl _) _)).same rfl) hd4 hown4 hg4 hv4
    ·exact (((HBW.out.alloc (by omega) _).drew.trans (hb4.mono (by omega))).setCell (Nat.le_refl _) _)
   case measure=>simp[intOf];omega
  ·obtain rfl:k=l.length:=by omega
   rw[List.take_of_length_le (Nat.le_refl _)]at hr4
   have c0:wr.cell? ⟨w.heap.size,0,none⟩=some (vs 0):=hr4.at (by omega)
   have c1:wr.cell? ⟨w.heap.size,1,none⟩=some (vs 1):=hr4.at (by omega)
   have c2:wr.cell? ⟨w.heap.size,2,none⟩=some (vs 2):=hr4.at (by omega)
   have c3:wr.cell? ⟨w.heap.size,3,none⟩=some (vs 3):=hr4.at (by omega)
   have HR:=hid hr4
   have HRR:=hid hR
   clear hr4 b3 hR
   go_wp2_with fail
   obtain⟨w1,rfl⟩:∃ w1:World,w1=wr:=⟨_,rfl⟩
   go_loopw [32] (fun i wr=>∃ k:Nat,k<=4/\i=.int .i64 k/\OfB l w1 k wr) (fun i _=>4-(intOf i).toNat)
   case atStart=>exact⟨0,by omega,rfl,fun _=>.slice none 0 0,Qd rfl,fun j _=>by rw[if_neg (Nat.not_lt_zero _)];exact OwnP.nil,(Below.refl _ _).alloc (Nat.le_refl _) _⟩
   case round=>
    obtain⟨k,hk,rfl,ps,hpa,hpo,hbi⟩:=hrel
    have hsi:=hbi.size
    have hsi2:w1.heap.size<wr.heap.size:=(Array.getElem?_eq_some_iff.1 hpa).1
    by_cases hk4:k<4
    ·have hki:(k:Int)<4:=by omega
     have hidx:∀ w,(Instr.index 183 (.agg #[vs 0,vs 1,vs 2,vs 3]) (.int .i64 (k:Int))).run Tryz.prog w=.ok (vs k) w:=fun w=>by
      match k,hk4 with
      |0,_=>rfl
      |1,_=>rfl
      |2,_=>rfl
      |3,_=>rfl
     have hnl:=ZS l k
     have HSL:Hid (SlP wr wr.heap.size 1 InE (vs k) (numsL l k)):=(HR.out.sl hk4 (by show (numsL l k).length<=Big;unfold Big;omega)).imp hbi hsi fun _ _ _ h=>h
     have HNB:Hid (∀ x∈numsL l k,numB x=true):=fun x hx=>by
      unfold numsL at hx
      obtain⟨d,hd,rfl⟩:=List.mem_map.1 hx
      have h1:=HRR.out d (List.mem_filter.1 hd).1
      simp[Dt.right]at h1
      simp[numB];omega
     have HPA:=hid hpa
     have HPO:=hid hpo
     have hpc:wr.cell? ⟨w1.heap.size,k,none⟩=some (ps k):=(Qa hpa).trans (ZK ps hk4)
     clear hpa hpo
     go_wp2_with fail
     refine (zXj (numsL l k) (vs k) wr HSL.out HNB.out (by omega)).mono ?_
     rintro e w2 ⟨v2,rfl,ho2,hb2⟩
     obtain⟨A2,n2,rfl⟩:=ho2.shape
     have hp2:=(hb2.block w1.heap.size hsi2).trans HPA.out
     have hc2:w2.cell? ⟨w1.heap.size,k,none⟩=some (ps k):=(Qa hp2).trans (ZK ps hk4)
     have hf2:w2.frozen? ⟨w1.heap.size,k,none⟩=false:=Qb hp2
     have HP2:=hid hp2
     have HO2:=hid ho2
     clear hp2 ho2 hpc hidx
     go_wp2_with fail
     go_roundw
     case rel=>
      refine⟨k+1,by omega,by go_num,fun j=>if j=k then .slice A2 (ofL (numsL l k)).length n2 else ps j,?_,fun j hj=>?_,(hbi.trans (hb2.mono hsi)).setCell (Nat.le_refl _) _⟩
      ·rw[Qe HP2.out,VE ps hk4]
      ·by_cases e:j=k
       ·subst e
        simp only[if_true,if_pos (Nat.lt_succ_self j)]
        exact (HO2.out.mono (by omega)).setOther (by simp) _
       ·have e2:(if j<k+1 then ofL (numsL l (j:Int)) else [])=(if j<k then ofL (numsL l (j:Int)) else []):=by
         by_cases e3:j<k
         ·rw[if_pos e3,if_pos (by omega)]
         ·rw[if_neg e3,if_neg (by omega)]
        simp only[if_neg e]
        rw[e2]
        exact ((HPO.out j hj).grow hb2).setOther (by simp) _
     case measure=>simp[intOf];omega
    ·obtain rfl:k=4:=by omega
     have d0:wr.cell? ⟨w1.heap.size,0,none⟩=some (ps 0):=Qa (i:=0) hpa
     have d1:wr.cell? ⟨w1.heap.size,1,none⟩=some (ps 1):=Qa (i:=1) hpa
     have d2:wr.cell? ⟨w1.heap.size,2,none⟩=some (ps 2):=Qa (i:=2) hpa
     have d3:wr.cell? ⟨w1.heap.size,3,none⟩=some (ps 3):=Qa (i:=3) hpa
     have HOL:∀ j:Nat,(ofL (numsL l (j:Int))).length<=100001:=fun j=>by have:=Vv (numsL l (j:Int));have:=ZS l (j:Int);omega
     have HSP:Hid (∀ j,j<4->SlP wr wr.heap.size 2 RuE (ps j) (ofL (numsL l (j:Int)))):=fun j hj=>by
      have:=hpo j hj
      rw[if_pos hj]at this
      exact this.sl (by have:=HOL j;unfold Big;omega)
     have HOLH:=hid HOL
     clear hpa hpo HOL
     go_wp2_with fail
     refine (qQc (fun j=>ofL (numsL l (j:Int))) ps wr HSP.out (fun j _=>by have:=HOLH.out j;show (ofL _).length<=_;omega)).mono ?_
     rintro e w2 ⟨v2,rfl,ho2,hb2⟩
     go_wp2_with fail
     go_ret2
     exact⟨_,rfl,ho2.mono (by omega),(hb.trans (hbi.mono hsz)).trans (hb2.mono (by omega))⟩
def zXn (t:Tr)(w:World)(e:Ending)(w':World):Prop:=
 ∃ v n,e=.returned (.tuple #[v,.int .i64 n])/\n=(if t.right 5 then 0 else 1)/\OwnP w' w.heap.size 45 3 SpE v (if t.right 5 then ctxOf t.dots else [])/\Below w.heap.size w w'
theorem YI (t:Tr)(ve vk:Value)(w:World)(h:t.rd w w.heap.size ve vk)(hN:t.sz<=90000) :
  Calls Tryz.prog 68 #[.agg #[ve,vk]] w (zXn t w):=by
 have HC:Hid (∀ w',Below w.heap.size w w'->t.rd w' w'.heap.size ve vk):=fun w' hb=>Qi hb hb.size _ _ _ h
 have hdl:=Zc t
 obtain⟨A3,n3,A4,n4,rfl,rfl⟩:=Qk h
 have hb0:=(Below.refl w.heap.size w).alloc (Nat.le_refl _) (.cells #[.slice A3 t.es.length n3,.slice A4 t.ks.length n4] 25)
 clear h
 go_enter Tryz.func68,Tryz.ntmps68
 go_wp2_with fail
 refine (QG t _ _ _ (HC.out _ hb0)).mono ?_
 rintro e w1 ⟨rfl,hb1⟩
 have hs1:=hb1.size
 simp only[World.size_alloc]at hs1
 have hB1:Below w.heap.size w w1:=hb0.trans (hb1.mono (by simp))
 have c0:w1.cell? ⟨w.heap.size,0,none⟩=some (.slice A3 t.es.length n3):=by rw[hb1.cell (p:=⟨w.heap.size,0,none⟩) (by simp)];simp
 have c1:w1.cell? ⟨w.heap.size,1,none⟩=some (.slice A4 t.ks.length n4):=by rw[hb1.cell (p:=⟨w.heap.size,1,none⟩) (by simp)];simp
 cases hr:t.right 5
 ·have HR:=hid hr
  clear hr
  go_wp2_with fail
  go_ret2
  exact⟨_,_,rfl,by rw[HR.out];rfl,by rw[HR.out];exact OwnP.nil,hB1⟩
 ·have HR:=hid hr
  have HD:=hid (Q3 t 5 hr)
  clear hr
  go_wp2_with fail
  refine (zQe t _ _ _ (HC.out _ hB1) (by omega)).mono ?_
  rintro e w2 ⟨v2,rfl,ho2,hb2⟩
  have hs2:=hb2.size
  have hsl:=ho2.sl (by unfold Big;omega)
  clear ho2
  go_wp2_with fail
  refine (Jd t.dots v2 w2 hsl HD.out (by omega)).mono ?_
  rintro e w3 ⟨v3,rfl,ho3,hb3⟩
  go_wp2_with fail
  go_ret2
  exact⟨_,_,rfl,by rw[HR.out];rfl,by rw[HR.out];exact ho3.mono (by omega),(hB1.trans (hb2.mono (by omega))).trans (hb3.mono (by omega))⟩
theorem zY2 {t:Tr}(h:t.right 5=true)(d:Dt):cHas (ctxOf t.dots) d=hasC (ctxOf t.dots) d:=zXk (Qr (Q3 t 5 h)) d
def chkI (t:Tr)(d:Dt):Int:=if chkT t d then 0 else 1
theorem Zs (t:Tr)(d:Dt)(ve vk:Value)(w:World)(h:t.rd w w.heap.size ve vk)(hN:t.sz<=90000) :
  Calls Tryz.prog 98 #[.agg #[ve,vk],.agg #[.int .i64 d.dc,.int .i64 d.n]] w fun e w'=>e=.returned (.int .i64 (chkI t d))/\Below w.heap.size w w':=by
 have HC:Hid (∀ w',Below w.heap.size w w'->t.rd w' w'.heap.size ve vk):=fun w' hb=>Qi hb hb.size _ _ _ h
 have hcl:(ctxOf t.dots).length<=900000:=by have:=Zn t.dots 4;have:=Zc t;unfold ctxOf;omega
 have HCL:=hid hcl
 obtain⟨A3,n3,A4,n4,rfl,rfl⟩:=Qk h
 have hb0:=((Below.refl w.heap.size w).alloc (Nat.le_refl _) (.cells #[.slice A3 t.es.length n3,.slice A4 t.ks.length n4] 25)).alloc (by simp) (.cells #[.int .i64 d.dc,.int .i64 d.n] 78)
 clear h hcl
 go_enter Tryz.func98,Tryz.ntmps98
 go_wp2_with fail
 refine (YI t _ _ _ (HC.out _ hb0) hN).mono ?_
 rintro e w1 ⟨v1,n1,rfl,hn1,ho1,hb1⟩
 have hs1:=hb1.size
 simp only[World.size_alloc]at hs1
 have hB1:Below w.heap.size w w1:=hb0.trans (hb1.mono (by simp;omega))
 have c0:w1.cell? ⟨w.heap.size+1,0,none⟩=some (.int .i64 d.dc):=by rw[hb1.cell (p:=⟨w.heap.size+1,0,none⟩) (by simp)];simp
 have c1:w1.cell? ⟨w.heap.size+1,1,none⟩=some (.int .i64 d.n):=by rw[hb1.cell (p:=⟨w.heap.size+1,1,none⟩) (by simp)];simp
 cases hr:t.right 5
 ·have HR:Hid (chkT t d=false):=by unfold Hid chkT;rw[hr];rfl
  rw[hr]at hn1
  obtain rfl:n1=1:=hn1
  clear hr ho1
  go_wp2_with fail
  go_ret
  exact⟨Qn (by rw[chkI,HR.out];rfl),hB1⟩
 rw[hr]at hn1 ho1
 obtain rfl:n1=0:=hn1
 simp only[if_true]at ho1
 have hsl:=ho1.sl (by have:=HCL.out;unfold Big;omega)
 have HSL:=hid hsl
 cases hd:d.right
 ·have HR:Hid (chkT t d=false):=by unfold Hid chkT;rw[hr,hd];rfl
  have HD:=hid hd
  clear hr ho1 hsl hd
  go_wp2_with (go_at_call 64;refine (Qy d _).mono ?_;rw[HD.out];rintro e w2 ⟨rfl,hb2⟩)
  go_ret
  exact⟨Qn (by rw[chkI,HR.out];rfl),hB1.trans (hb2.mono (by omega))⟩
 ·have HR:Hid (chkT t d = !cHas (ctxOf t.dots) d):=by unfold Hid chkT;rw[hr,hd,zY2 hr];rfl
  have HD:=hid hd
  clear hr ho1 hsl hd
  go_wp2_with fail
  refine (Qy d _).mono ?_
  rw[HD.out]
  rintro e w2 ⟨rfl,hb2⟩
  have hs2:=hb2.size
  have d0:w2.cell? ⟨w.heap.size+1,0,none⟩=some (.int .i64 d.dc):=(hb2.cell (p:=⟨w.heap.size+1,0,none⟩) (by show w.heap.size+1<_;omega)).trans c0
  have d1:w2.cell? ⟨w.heap.size+1,1,none⟩=some (.int .i64 d.n):=(hb2.cell (p:=⟨w.heap.size+1,1,none⟩) (by show w.heap.size+1<_;omega)).trans c1
  go_wp2_with fail
  refine (XG (ctxOf t.dots) d v1 w2 (HSL.out.imp hb2 hs2 fun _ _ _ h=>h) HCL.out).mono ?_
  rintro e w3 ⟨rfl,hb3⟩
  have hB3:=(hB1.trans (hb2.mono (by omega))).trans (hb3.mono (show w.heap.size<=_ by omega))
  generalize cHas (ctxOf t.dots) d=q at *
  cases q
  all_goals
   go_wp2_with fail
   go_ret
   exact⟨Qn (by rw[chkI,HR.out];rfl),hB3⟩
def RetCE (w:World)(t:Tr)(c:List Sp)(k:Int)(e:Ending)(w':World):Prop:=
 ∃ ve vk vc,e=.returned (.tuple #[.agg #[ve,vk,vc],.int .i64 k])/\t.rda w' (fun b=>w.heap.size<=b/\b<w'.heap.size) ve vk/\SlA w' (fun b=>w.heap.size<=b/\b<w'.heap.size) 3 SpE vc c/\Below w.heap.size w w'
theorem Zt {t:Tr}{d:Dt}(h:chkT t d=true):d.right=true:=by
 unfold chkT at h;simp at h;exact h.1.2
theorem Ym {t:Tr}{d:Dt}(h:chkT t d=true):t.right 5=true:=by
 unfold chkT at h;simp at h;exact h.1.1
theorem SlA.one {α:Type}{w:World}{ok:Nat->Prop}{sz n:Nat}{E:α->List Value->Prop}{x:α}{cs:List Value}{e:TypeId}{z:Nat×Nat}(hE:E x cs)(hl:cs.length=sz)(h:w.heap[n]?=some (.cells cs.toArray e z))(ho:ok n) :
  SlA w ok sz E (.slice (some ⟨n,0,none⟩) 1 1) [x]:=by
 refine⟨_,1,rfl,Nat.le_refl _,by simp[Big],fun _=>⟨_,0,rfl,ho,fun j y hy=>?_⟩⟩
 match j,hy with
 |0,hy=>
  simp at hy;subst hy
  exact⟨cs,hE,hl,fun i u hi=>by rw[Qa h];simpa using hi⟩
theorem En.Ok.mk' {d:Dt}{n:Int}(hd:d.Ok)(hn:I64 n):En.Ok ⟨d.dc,d.n,ByteArray.empty,n⟩:=⟨hd.dc,hd.n,hn,by simp[Big]⟩
theorem QL (l:List Dt):(ctxOf l).length<=4*(l.length+1):=Zn l 4
theorem Yn (a b:List Sp)(how:Int):(ctxBy a b how).length<=4*(2*a.length+2*b.length+1):=Zm a b how 4
theorem ZY {d:Dt}(h:d.right=true):∀ x∈[d],x.right=true:=fun x hx=>by simp at hx;subst hx;exact h
def seenC (t:Tr)(d:Dt):List Sp:=ctxBy (ctxOf t.dots) (ctxOf [d]) 0
theorem Yo (t:Tr)(d:Dt):(seenC t d).length<=4*(8*t.sz+30):=by
 have h1:=Yn (ctxOf t.dots) (ctxOf [d]) 0
 have h2:=QL t.dots
 have h3:=QL [d]
 have h4:=Zc t
 unfold seenC
 simp at h3
 omega
theorem qYg (t:Tr)(d:Dt)(ve vk:Value)(w:World)(h:t.rd w w.heap.size ve vk)(hN:t.sz<=4000)(hr:t.right 5=true)(hd:d.right=true)(ho:d.Ok) :
  Calls Tryz.prog 170 #[.agg #[ve,vk],.agg #[.int .i64 d.dc,.int .i64 d.n]] w (RetO w 45 3 (fun _=>SpE) (seenC t d)):=by
 have HC:Hid (∀ w',Below w.heap.size w w'->t.rd w' w'.heap.size ve vk):=fun w' hb=>Qi hb hb.size _ _ _ h
 have hdl:=Zc t
 have h2:=QL t.dots
 have h3:=QL [d]
 simp only[List.length_singleton]at h3
 have HAA:=hid (Qr (Q3 t 5 hr))
 have HAB:=hid (Qr (ZY hd))
 have HDR:=hid (ZY hd)
 obtain⟨A3,n3,A4,n4,rfl,rfl⟩:=Qk h
 have hb0:=((Below.refl w.heap.size w).alloc (Nat.le_refl _) (.cells #[.slice A3 t.es.length n3,.slice A4 t.ks.length n4] 25)).alloc (by simp) (.cells #[.int .i64 d.dc,.int .i64 d.n] 78)
 clear h
 go_enter Tryz.func170,Tryz.ntmps170
 go_wp2_with fail
 refine (YI t _ _ _ (HC.out _ hb0) (by omega)).mono ?_
 rintro e w1 ⟨v1,n1,rfl,hn1,ho1,hb1⟩
 rw[hr]at ho1 hn1
 obtain rfl:n1=0:=hn1
 rw[if_pos rfl]at ho1
 have hs1:=hb1.size
 simp only[World.size_alloc]at hs1
 have hB1:Below w.heap.size w w1:=hb0.trans (hb1.mono (by simp;omega))
 have c0:w1.cell? ⟨w.heap.size+1,0,none⟩=some (.int .i64 d.dc):=by rw[hb1.cell (p:=⟨w.heap.size+1,0,none⟩) (by simp)];simp
 have c1:w1.cell? ⟨w.heap.size+1,1,none⟩=some (.int .i64 d.n):=by rw[hb1.cell (p:=⟨w.heap.size+1,1,none⟩) (by simp)];simp
 have HO1:=hid ho1
 clear hr hd ho1
 go_wp2_with fail
 refine (Jd [d] _ _ (SlP.oneB (E:=DtE) (x:=d) (cs:=[.int .i64 d.dc,.int .i64 d.n]) ⟨rfl,ho⟩ rfl _ rfl (by simp)) HDR.out (by simp)).mono ?_
 rintro e w2 ⟨v2,rfl,ho2,hb2⟩
 have hs2:=hb2.size
 simp only[World.size_alloc]at hs2
 have hb2':Below w1.heap.size w1 w2:=((Below.refl _ w1).alloc (Nat.le_refl _) _).trans (hb2.mono (by simp))
 have hsl1:=(HO1.out.grow hb2').sl (by unfold Big;omega)
 have hsl2:=ho2.sl (by unfold Big;omega)
 have H1:=hid hsl1
 have H2:=hid hsl2
 clear hsl1 hsl2 ho2
 go_wp2_with fail
 refine (YY (ctxOf t.dots) (ctxOf [d]) v1 v2 w2 H1.out H2.out HAA.out HAB.out (by omega) (by omega)).mono ?_
 rintro e w3 ⟨v3,rfl,ho3,hb3⟩
 go_wp2_with fail
 go_ret
 exact⟨_,rfl,ho3.mono (by omega),(hB1.trans (hb2'.mono (by omega))).trans (hb3.mono (by omega))⟩
def onB (t:Tr):Bool:=t.right 5&&decide (0<t.es.length)
theorem zXo (t:Tr)(w:World)(ve vk:Value)(h:t.rd w w.heap.size ve vk) :
  Calls Tryz.prog 85 #[.agg #[ve,vk]] w fun e w'=>e=.returned (.bool (onB t))/\Below w.heap.size w w':=by
 have HC:Hid (∀ w',Below w.heap.size w w'->t.rd w' w'.heap.size ve vk):=fun w' hb=>Qi hb hb.size _ _ _ h
 have hfit:=VV _ _ _ h
 have hel:t.es.length<=140737488355328:=by obtain⟨es,ks⟩:=t;exact hfit.1
 obtain⟨A3,n3,A4,n4,rfl,rfl⟩:=Qk h
 have hb0:=(Below.refl w.heap.size w).alloc (Nat.le_refl _) (.cells #[.slice A3 t.es.length n3,.slice A4 t.ks.length n4] 25)
 clear h hfit
 go_enter Tryz.func85,Tryz.ntmps85
 go_wp2_with fail
 refine (QG t _ _ _ (HC.out _ hb0)).mono ?_
 rintro e w1 ⟨rfl,hb1⟩
 have hs1:=hb1.size
 simp only[World.size_alloc]at hs1
 have hB1:Below w.heap.size w w1:=hb0.trans (hb1.mono (by simp))
 have c0:w1.cell? ⟨w.heap.size,0,none⟩=some (.slice A3 t.es.length n3):=by rw[hb1.cell (p:=⟨w.heap.size,0,none⟩) (by simp)];simp
 cases hr:t.right 5
 ·have HR:Hid (onB t=false):=by unfold Hid onB;rw[hr];rfl
  clear hr
  go_wp2_with fail
  go_ret
  exact⟨Qf HR.out.symm,hB1⟩
 ·have HR:Hid (onB t=decide (0<t.es.length)):=by unfold Hid onB;rw[hr];rfl
  clear hr
  go_wp2_with fail
  go_ret
  exact⟨Qf HR.out.symm,hB1⟩
def disC (t:Tr)(d:Dt):List Sp:=if chkT t d then seenC t d else []
theorem qQl (t:Tr)(d:Dt)(ve vk:Value)(w:World)(h:t.rd w w.heap.size ve vk)(hN:t.sz<=4000)(hd:d.Ok) :
  Calls Tryz.prog 139 #[.agg #[ve,vk],.agg #[.int .i64 d.dc,.int .i64 d.n]] w (RetCE w (.mk [] []) (disC t d) (chkI t d)):=by
 have HC:Hid (∀ w',Below w.heap.size w w'->t.rd w' w'.heap.size ve vk):=fun w' hb=>Qi hb hb.size _ _ _ h
 obtain⟨A3,n3,A4,n4,rfl,rfl⟩:=Qk h
 have hb0:=(((Below.refl w.heap.size w).alloc (Nat.le_refl _) (.cells #[.slice A3 t.es.length n3,.slice A4 t.ks.length n4] 25)).alloc (by simp) (.cells #[.int .i64 d.dc,.int .i64 d.n] 78)).alloc (by simp;omega) (.cells #[.slice none 0 0,.slice none 0 0,.slice none 0 0] 29)
 clear h
 go_enter Tryz.func139,Tryz.ntmps139
 go_wp2_with fail
 refine (Zs t d _ _ _ (HC.out _ hb0) (by omega)).mono ?_
 rintro e w1 ⟨rfl,hb1⟩
 have hs1:=hb1.size
 simp only[World.size_alloc]at hs1
 have hB1:Below w.heap.size w w1:=hb0.trans (hb1.mono (by simp;omega))
 have c0:w1.cell? ⟨w.heap.size,0,none⟩=some (.slice A3 t.es.length n3):=by
  rw[hb1.cell (p:=⟨w.heap.size,0,none⟩) (by simp;omega)]
  rw[World.cell?_alloc_lt _ _ _ (by simp;omega),World.cell?_alloc_lt _ _ _ (by simp)];simp
 have c1:w1.cell? ⟨w.heap.size,1,none⟩=some (.slice A4 t.ks.length n4):=by
  rw[hb1.cell (p:=⟨w.heap.size,1,none⟩) (by simp;omega)]
  rw[World.cell?_alloc_lt _ _ _ (by simp;omega),World.cell?_alloc_lt _ _ _ (by simp)];simp
 have d0:w1.cell? ⟨w.heap.size+1,0,none⟩=some (.int .i64 d.dc):=by rw[hb1.cell (p:=⟨w.heap.size+1,0,none⟩) (by simp),World.cell?_alloc_lt _ _ _ (by simp)];simp
 have d1:w1.cell? ⟨w.heap.size+1,1,none⟩=some (.int .i64 d.n):=by rw[hb1.cell (p:=⟨w.heap.size+1,1,none⟩) (by simp),World.cell?_alloc_lt _ _ _ (by simp)];simp
 have hg:w1.heap[w.heap.size+2]?=some (.cells #[.slice none 0 0,.slice none 0 0,.slice none 0 0] 29 (0,0)):=(hb1.block (w.heap.size+2) (by simp)).trans (Qd (by simp))
 have HG:=hid hg
 have k0:w1.cell? ⟨w.heap.size+2,0,none⟩=some (.slice none 0 0):=Qa (i:=0) hg
 have k1:w1.cell? ⟨w.heap.size+2,1,none⟩=some (.slice none 0 0):=Qa (i:=1) hg
 have k2:w1.cell? ⟨w.heap.size+2,2,none⟩=some (.slice none 0 0):=Qa (i:=2) hg
 have z0:=Qb (i:=0) hg
 have z1:=Qb (i:=1) hg
 have z2:=Qb (i:=2) hg
 clear hg hb1
 cases hc:chkT t d
 ·have HE:Hid (chkI t d=1):=by unfold Hid chkI;rw[hc];rfl
  have HD:Hid (disC t d=[]):=by unfold Hid disC;rw[hc];rfl
  rw[HE.out]
  clear hc
  go_wp2_with fail
  obtain⟨r0,r1,r2,hK,hS⟩:=box3 HG.out (.slice none 0 0) (.slice none 0 0) (.slice none 0 0)
  have hBW:=((hB1.setCell (p:=⟨w.heap.size+2,0,none⟩) (by simp) (.slice none 0 0)).setCell (p:=⟨w.heap.size+2,1,none⟩) (by simp) (.slice none 0 0)).setCell (p:=⟨w.heap.size+2,2,none⟩) (by simp) (.slice none 0 0)
  refine bodyPost_ret (v:=.tuple #[.agg #[.slice none 0 0,.slice none 0 0,.slice none 0 0],.int .i64 1]) (by simp[results,Tryz.results139,go_sem,r0,r1,r2]) rfl ⟨_,_,_,by rw[HE.out],?_,?_,hBW⟩
  ·exact Qo _ _
  ·rw[HD.out];exact SlA.nil
 ·have HE:Hid (chkI t d=0):=by unfold Hid chkI;rw[hc];rfl
  have HD:Hid (disC t d=seenC t d):=by unfold Hid disC;rw[hc];rfl
  have HDR:=hid (Zt hc)
  have HTR:=hid (Ym hc)
  rw[HE.out]
  clear hc
  go_wp2_with fail
  refine (qYg t d _ _ w1 (HC.out _ hB1) hN HTR.out HDR.out hd).mono ?_
  rintro e w2 ⟨v2,rfl,ho2,hb2⟩
  obtain⟨A2,c2,rfl⟩:=ho2.shape
  have hs2:=hb2.size
  have hB2:Below w.heap.size w w2:=hB1.trans (hb2.mono (by omega))
  have HG2:=hid ((hb2.block (w.heap.size+2) (by omega)).trans HG.out)
  clear k0 k1 k2 z0 z1 z2 c0 c1 d0 d1
  have k0:w2.cell? ⟨w.heap.size+2,0,none⟩=some (.slice none 0 0):=Qa (i:=0) HG2.out
  have k1:w2.cell? ⟨w.heap.size+2,1,none⟩=some (.slice none 0 0):=Qa (i:=1) HG2.out
  have k2:w2.cell? ⟨w.heap.size+2,2,none⟩=some (.slice none 0 0):=Qa (i:=2) HG2.out
  have z0:=Qb (i:=0) HG2.out
  have z1:=Qb (i:=1) HG2.out
  have z2:=Qb (i:=2) HG2.out
  have HO2:=hid ho2
  have hsc:=Yo t d
  clear ho2
  go_wp2_with fail
  obtain⟨r0,r1,r2,hK,hS⟩:=box3 HG2.out (.slice none 0 0) (.slice none 0 0) (.slice A2 (seenC t d).length c2)
  have hBW:=((hB2.setCell (p:=⟨w.heap.size+2,0,none⟩) (by simp) (.slice none 0 0)).setCell (p:=⟨w.heap.size+2,1,none⟩) (by simp) (.slice none 0 0)).setCell (p:=⟨w.heap.size+2,2,none⟩) (by simp) (.slice A2 (seenC t d).length c2)
  refine bodyPost_ret (v:=.tuple #[.agg #[.slice none 0 0,.slice none 0 0,.slice A2 (seenC t d).length c2],.int .i64 0]) (by simp[results,Tryz.results139,go_sem,r0,r1,r2]) rfl ⟨_,_,_,by rw[HE.out],Qo _ _,?_,hBW⟩
  rw[HD.out]
  refine (HO2.out.sla (by unfold Big;omega)).up (fun b hb=>hK b (by have:=hb.1;omega)) (fun b hb=>⟨by have:=hb.1;omega,by rw[hS];exact hb.2.1⟩) (fun _ _ _ h=>h)
def sckB (t:Tr)(s:ByteArray)(d:Dt):Bool:=chkT t d&&keyB s
def sckI (t:Tr)(s:ByteArray)(d:Dt):Int:=if sckB t s d then 0 else 1
theorem K9 (t:Tr)(s:ByteArray)(d:Dt)(ve vk:Value)(w:World)(h:t.rd w w.heap.size ve vk)(hs:s.size<=Big)(hN:t.sz<=90000) :
  Calls Tryz.prog 171 #[.agg #[ve,vk],.string s,.agg #[.int .i64 d.dc,.int .i64 d.n]] w fun e w'=>e=.returned (.int .i64 (sckI t s d))/\Below w.heap.size w w':=by
 have HC:Hid (∀ w',Below w.heap.size w w'->t.rd w' w'.heap.size ve vk):=fun w' hb=>Qi hb hb.size _ _ _ h
 obtain⟨A3,n3,A4,n4,rfl,rfl⟩:=Qk h
 have hb0:=((Below.refl w.heap.size w).alloc (Nat.le_refl _) (.cells #[.slice A3 t.es.length n3,.slice A4 t.ks.length n4] 25)).alloc (by simp) (.cells #[.int .i64 d.dc,.int .i64 d.n] 78)
 unfold Big at hs
 clear h
 go_enter Tryz.func171,Tryz.ntmps171
 go_wp2_with fail
 refine (Zs t d _ _ _ (HC.out _ hb0) (by omega)).mono ?_
 rintro e w1 ⟨rfl,hb1⟩
 have hB1:Below w.heap.size w w1:=hb0.trans (hb1.mono (by simp;omega))
 clear hb1 hb0
 cases hc:chkT t d
 ·have HI:Hid (chkI t d=1):=by unfold Hid chkI;rw[hc];rfl
  have HR:Hid (sckI t s d=1):=by unfold Hid sckI sckB;rw[hc];rfl
  rw[HI.out]
  clear hc
  go_wp2_with fail
  go_ret
  exact⟨Qn HR.out.symm,hB1⟩
 have HI:Hid (chkI t d=0):=by unfold Hid chkI;rw[hc];rfl
 rw[HI.out]
 cases hk:keyB s
 ·have HR:Hid (sckI t s d=1):=by unfold Hid sckI sckB;rw[hc,hk];rfl
  have hkb:¬(1<=s.size/\s.size<=30):=by simpa[keyB] using hk
  clear hc hk
  by_cases hz:s.size<1
  ·have t1:decide ((s.size:Int)<1)=true:=by simp;omega
   go_wp2_with fail
   go_ret
   exact⟨Qn HR.out.symm,hB1⟩
  ·have t1:decide ((s.size:Int)<1)=false:=by simp;omega
   have t2:decide ((30:Int)<s.size)=true:=by simp;omega
   go_wp2_with fail
   go_ret
   exact⟨Qn HR.out.symm,hB1⟩
 ·have HR:Hid (sckI t s d=0):=by unfold Hid sckI sckB;rw[hc,hk];rfl
  have hkb:1<=s.size/\s.size<=30:=by simpa[keyB] using hk
  have t1:decide ((s.size:Int)<1)=false:=by simp;omega
  have t2:decide ((30:Int)<s.size)=false:=by simp;omega
  clear hc hk
  go_wp2_with fail
  go_ret
  exact⟨Qn HR.out.symm,hB1⟩
theorem VI (key x:ByteArray)(A A':Option Addr)(n c n' c':Nat)(B:Nat)(w:World)(hc:w.cell? ⟨B,0,none⟩=some (.string key))(hB:B<w.heap.size) :
  Calls Tryz.prog 204 #[.agg #[.string x,.slice A n c,.slice A' n' c'],.pointer (some ⟨B,0,none⟩)] w fun e w'=>e=.returned (.bool (decide (x=key)))/\Below w.heap.size w w':=by
 have hne:B≠w.heap.size:=by omega
 have HE:Hid ((x.toList==key.toList)=decide (x=key)):=by
  unfold Hid;rw[Bool.eq_iff_iff];simp[QN]
 go_enter Tryz.func204,Tryz.ntmps204
 go_wp2_with fail
 go_ret
 exact⟨Qf HE.out,by go_grown⟩
theorem qJ2 {key:ByteArray}{B:Nat}{w:World}(hc:w.cell? ⟨B,0,none⟩=some (.string key))(hB:B<w.heap.size):JU 204 #[.pointer (some ⟨B,0,none⟩)] (fun x=>decide (x=key)) w:=
 ⟨enters_of Tryz.func204 (by kernel_rfl) rfl,fun x A A' n c n' c' W _ hW=>VI key x A A' n c n' c' B W ((hW.cell (p:=⟨B,0,none⟩) hB).trans hc) (by have:=hW.size;omega)⟩
def hasK (t:Tr)(s:ByteArray):Bool:=t.ks.any fun y=>decide (y.1=s)
theorem qJ3 (t:Tr)(s:ByteArray)(ve vk:Value)(w:World)(h:t.rd w w.heap.size ve vk) :
  Calls Tryz.prog 172 #[.agg #[ve,vk],.string s] w fun e w'=>e=.returned (.bool (hasK t s))/\Below w.heap.size w w':=by
 have HK:Hid (∀ w',Below w.heap.size w w'->SlP w' w'.heap.size 3 (KdE w' w'.heap.size) vk t.ks):=fun w' hb=>Xz (Qi hb hb.size _ _ _ h)
 obtain⟨A3,n3,A4,n4,rfl,rfl⟩:=Qk h
 clear h
 go_enter Tryz.func172,Tryz.ntmps172
 go_wp2_with fail
 refine (KR (fun y=>decide (y=s)) _ _ t.ks _ _ (HK.out _ (by go_grown)) (qJ2 (key:=s) (B:=w.heap.size+1) (by simp) (by simp))).mono ?_
 rintro e w1 ⟨rfl,hb1⟩
 go_wp2_with fail
 go_ret
 exact⟨Qf rfl,Below.trans (by go_grown) (hb1.mono (by simp;omega))⟩
theorem qJ4 {t:Tr}(h:t.right 5=true)(s:ByteArray):(kidT t s).right 5=true:=qX9 _ 4 5 (KP (n:=4) h (by omega) s) (by omega)
theorem J7 (t:Tr)(s:ByteArray)(d:Dt)(ve vk:Value)(w:World)(h:t.rd w w.heap.size ve vk)(hs:s.size<=Big)(hN:t.sz<=4000)(hr:t.right 5=true)(hd:d.right=true)(ho:d.Ok) :
  Calls Tryz.prog 173 #[.agg #[ve,vk],.string s,.agg #[.int .i64 d.dc,.int .i64 d.n]] w (RetO w 45 3 (fun _=>SpE) (seenC (kidT t s) d)):=by
 have HC:Hid (∀ w',Below w.heap.size w w'->t.rd w' w'.heap.size ve vk):=fun w' hb=>Qi hb hb.size _ _ _ h
 have hk5:=qJ4 hr s
 have hks:=YG t s
 have hG:tgetT t [s]=kidT t s:=by unfold tgetT;rw[hr];rfl
 have HSN:Hid (seenC (kidT t s) d=ctxBy (ctxOf (kidT t s).dots) (ctxOf [d]) 0):=rfl
 generalize kidT t s=u at *
 have hdl:=Zc u
 have h2:=QL u.dots
 have h3:=QL [d]
 simp only[List.length_singleton]at h3
 have HAA:=hid (Qr (Q3 u 5 hk5))
 have HAB:=hid (Qr (ZY hd))
 have HDR:=hid (ZY hd)
 obtain⟨A3,n3,A4,n4,rfl,rfl⟩:=Qk h
 have hb0:=((Below.refl w.heap.size w).alloc (Nat.le_refl _) (.cells #[.slice A3 t.es.length n3,.slice A4 t.ks.length n4] 25)).alloc (by simp) (.cells #[.int .i64 d.dc,.int .i64 d.n] 78)
 have hb1:Below w.heap.size w (((w.alloc (.cells #[.slice A3 t.es.length n3,.slice A4 t.ks.length n4] 25)).alloc (.cells #[.int .i64 d.dc,.int .i64 d.n] 78)).alloc (.cells #[.string s] 9)):=hb0.alloc (by simp;omega) _
 clear h hr hd
 go_enter Tryz.func173,Tryz.ntmps173
 go_wp2_with fail
 refine (XA t [s] _ _ _ _ (HC.out _ hb1) (SlP.oneB (E:=StE) (n:=w.heap.size+1+1) (x:=s) (cs:=[.string s]) ⟨rfl,hs⟩ rfl _ (by simp) (by simp)) (by omega)).mono ?_
 rw[hG]
 rintro e w1 ⟨ve1,vk1,rfl,hrd1,hb2⟩
 obtain⟨A5,n5,A6,n6,rfl,rfl⟩:=Qj hrd1
 have hs1:=hb2.size
 simp only[World.size_alloc]at hs1
 have hB1:Below w.heap.size w w1:=hb1.trans (hb2.mono (by simp;omega))
 have c0:w1.cell? ⟨w.heap.size+1,0,none⟩=some (.int .i64 d.dc):=by
  rw[hb2.cell (p:=⟨w.heap.size+1,0,none⟩) (by simp),World.cell?_alloc_lt _ _ _ (by simp)];simp
 have c1:w1.cell? ⟨w.heap.size+1,1,none⟩=some (.int .i64 d.n):=by
  rw[hb2.cell (p:=⟨w.heap.size+1,1,none⟩) (by simp),World.cell?_alloc_lt _ _ _ (by simp)];simp
 have HU:=hid (QQ hrd1 (fun b hb=>hb.2) (Below.refl _ w1))
 have HK5:=hid hk5
 clear hrd1 hb2 hG hk5
 go_wp2_with fail
 refine (YI u _ _ w1 HU.out (by omega)).mono ?_
 rintro e w2 ⟨v2,n2,rfl,hn2,ho2,hb2⟩
 rw[HK5.out]at ho2 hn2
 obtain rfl:n2=0:=hn2
 rw[if_pos rfl]at ho2
 obtain⟨A7,n7,rfl⟩:=ho2.shape
 have hs2:=hb2.size
 have hB2:Below w.heap.size w w2:=hB1.trans (hb2.mono (by omega))
 have d0:w2.cell? ⟨w.heap.size+1,0,none⟩=some (.int .i64 d.dc):=(hb2.cell (p:=⟨w.heap.size+1,0,none⟩) (by show w.heap.size+1<_;omega)).trans c0
 have d1:w2.cell? ⟨w.heap.size+1,1,none⟩=some (.int .i64 d.n):=(hb2.cell (p:=⟨w.heap.size+1,1,none⟩) (by show w.heap.size+1<_;omega)).trans c1
 have HO2:=hid ho2
 clear ho2 c0 c1 hb2
 go_wp2_with fail
 refine (Jd [d] _ _ (SlP.oneB (E:=DtE) (x:=d) (cs:=[.int .i64 d.dc,.int .i64 d.n]) ⟨rfl,ho⟩ rfl _ rfl (by simp)) HDR.out (by simp)).mono ?_
 rintro e w3 ⟨v3,rfl,ho3,hb3⟩
 obtain⟨A8,n8,rfl⟩:=ho3.shape
 have hs3:=hb3.size
 simp only[World.size_alloc]at hs3
 have hb3':Below w2.heap.size w2 w3:=((Below.refl _ w2).alloc (Nat.le_refl _) _).trans (hb3.mono (by simp))
 have H1:=hid ((HO2.out.grow hb3').sl (by unfold Big;omega))
 have H2:=hid (ho3.sl (by unfold Big;omega))
 clear ho3 hb3 d0 d1
 go_wp2_with fail
 refine (YY (ctxOf u.dots) (ctxOf [d]) _ _ w3 H1.out H2.out HAA.out HAB.out (by omega) (by omega)).mono ?_
 rintro e w4 ⟨v4,rfl,ho4,hb4⟩
 go_wp2_with fail
 go_ret
 exact⟨_,rfl,by rw[HSN.out];exact ho4.mono (by omega),(hB2.trans (hb3'.mono (by omega))).trans (hb4.mono (by omega))⟩
def delC (t:Tr)(s:ByteArray)(d:Dt):List Sp:=if sckB t s d then seenC (kidT t s) d else []
theorem Je {t:Tr}{s:ByteArray}{d:Dt}(h:sckB t s d=true):chkT t d=true/\keyB s=true:=by
 unfold sckB at h;simpa using h
theorem zQm (t:Tr)(s:ByteArray)(d:Dt)(ve vk:Value)(w:World)(h:t.rd w w.heap.size ve vk)(hs:s.size<=Big)(hN:t.sz<=4000)(hd:d.Ok) :
  Calls Tryz.prog 141 #[.agg #[ve,vk],.string s,.agg #[.int .i64 d.dc,.int .i64 d.n]] w (RetCE w (.mk [] []) (delC t s d) (sckI t s d)):=by
 have HC:Hid (∀ w',Below w.heap.size w w'->t.rd w' w'.heap.size ve vk):=fun w' hb=>Qi hb hb.size _ _ _ h
 obtain⟨A3,n3,A4,n4,rfl,rfl⟩:=Qk h
 have hb0:=(((Below.refl w.heap.size w).alloc (Nat.le_refl _) (.cells #[.slice A3 t.es.length n3,.slice A4 t.ks.length n4] 25)).alloc (by simp) (.cells #[.int .i64 d.dc,.int .i64 d.n] 78)).alloc (by simp;omega) (.cells #[.slice none 0 0,.slice none 0 0,.slice none 0 0] 29)
 clear h
 go_enter Tryz.func141,Tryz.ntmps141
 go_wp2_with fail
 refine (K9 t s d _ _ _ (HC.out _ hb0) hs (by omega)).mono ?_
 rintro e w1 ⟨rfl,hb1⟩
 have hs1:=hb1.size
 simp only[World.size_alloc]at hs1
 have hB1:Below w.heap.size w w1:=hb0.trans (hb1.mono (by simp;omega))
 have c0:w1.cell? ⟨w.heap.size,0,none⟩=some (.slice A3 t.es.length n3):=by
  rw[hb1.cell (p:=⟨w.heap.size,0,none⟩) (by simp;omega)]
  rw[World.cell?_alloc_lt _ _ _ (by simp;omega),World.cell?_alloc_lt _ _ _ (by simp)];simp
 have c1:w1.cell? ⟨w.heap.size,1,none⟩=some (.slice A4 t.ks.length n4):=by
  rw[hb1.cell (p:=⟨w.heap.size,1,none⟩) (by simp;omega)]
  rw[World.cell?_alloc_lt _ _ _ (by simp;omega),World.cell?_alloc_lt _ _ _ (by simp)];simp
 have d0:w1.cell? ⟨w.heap.size+1,0,none⟩=some (.int .i64 d.dc):=by rw[hb1.cell (p:=⟨w.heap.size+1,0,none⟩) (by simp),World.cell?_alloc_lt _ _ _ (by simp)];simp
 have d1:w1.cell? ⟨w.heap.size+1,1,none⟩=some (.int .i64 d.n):=by rw[hb1.cell (p:=⟨w.heap.size+1,1,none⟩) (by simp),World.cell?_alloc_lt _ _ _ (by simp)];simp
 have hg:w1.heap[w.heap.size+2]?=some (.cells #[.slice none 0 0,.slice none 0 0,.slice none 0 0] 29 (0,0)):=(hb1.block (w.heap.size+2) (by simp)).trans (Qd (by simp))
 have HG:=hid hg
 have k0:w1.cell? ⟨w.heap.size+2,0,none⟩=some (.slice none 0 0):=Qa (i:=0) hg
 have k1:w1.cell? ⟨w.heap.size+2,1,none⟩=some (.slice none 0 0):=Qa (i:=1) hg
 have k2:w1.cell? ⟨w.heap.size+2,2,none⟩=some (.slice none 0 0):=Qa (i:=2) hg
 have z0:=Qb (i:=0) hg
 have z1:=Qb (i:=1) hg
 have z2:=Qb (i:=2) hg
 clear hg hb1
 cases hc:sckB t s d
 ·have HE:Hid (sckI t s d=1):=by unfold Hid sckI;rw[hc];rfl
  have HD:Hid (delC t s d=[]):=by unfold Hid delC;rw[hc];rfl
  rw[HE.out]
  clear hc
  go_wp2_with fail
  obtain⟨r0,r1,r2,hK,hS⟩:=box3 HG.out (.slice none 0 0) (.slice none 0 0) (.slice none 0 0)
  have hBW:=((hB1.setCell (p:=⟨w.heap.size+2,0,none⟩) (by simp) (.slice none 0 0)).setCell (p:=⟨w.heap.size+2,1,none⟩) (by simp) (.slice none 0 0)).setCell (p:=⟨w.heap.size+2,2,none⟩) (by simp) (.slice none 0 0)
  refine bodyPost_ret (v:=.tuple #[.agg #[.slice none 0 0,.slice none 0 0,.slice none 0 0],.int .i64 1]) (by simp[results,Tryz.results141,go_sem,r0,r1,r2]) rfl ⟨_,_,_,by rw[HE.out],?_,?_,hBW⟩
  ·exact Qo _ _
  ·rw[HD.out];exact SlA.nil
 ·have HE:Hid (sckI t s d=0):=by unfold Hid sckI;rw[hc];rfl
  have HD:Hid (delC t s d=seenC (kidT t s) d):=by unfold Hid delC;rw[hc];rfl
  have HDR:=hid (Zt (Je hc).1)
  have HTR:=hid (Ym (Je hc).1)
  rw[HE.out]
  clear hc
  go_wp2_with fail
  refine (J7 t s d _ _ w1 (HC.out _ hB1) hs hN HTR.out HDR.out hd).mono ?_
  rintro e w2 ⟨v2,rfl,ho2,hb2⟩
  obtain⟨A2,c2,rfl⟩:=ho2.shape
  have hs2:=hb2.size
  have hB2:Below w.heap.size w w2:=hB1.trans (hb2.mono (by omega))
  have HG2:=hid ((hb2.block (w.heap.size+2) (by omega)).trans HG.out)
  clear k0 k1 k2 z0 z1 z2 c0 c1 d0 d1
  have k0:w2.cell? ⟨w.heap.size+2,0,none⟩=some (.slice none 0 0):=Qa (i:=0) HG2.out
  have k1:w2.cell? ⟨w.heap.size+2,1,none⟩=some (.slice none 0 0):=Qa (i:=1) HG2.out
  have k2:w2.cell? ⟨w.heap.size+2,2,none⟩=some (.slice none 0 0):=Qa (i:=2) HG2.out
  have z0:=Qb (i:=0) HG2.out
  have z1:=Qb (i:=1) HG2.out
  have z2:=Qb (i:=2) HG2.out
  have HO2:=hid ho2
  have hsc:=Yo (kidT t s) d
  have hkz:=YG t s
  clear ho2
  go_wp2_with fail
  obtain⟨r0,r1,r2,hK,hS⟩:=box3 HG2.out (.slice none 0 0) (.slice none 0 0) (.slice A2 (seenC (kidT t s) d).length c2)
  have hBW:=((hB2.setCell (p:=⟨w.heap.size+2,0,none⟩) (by simp) (.slice none 0 0)).setCell (p:=⟨w.heap.size+2,1,none⟩) (by simp) (.slice none 0 0)).setCell (p:=⟨w.heap.size+2,2,none⟩) (by simp) (.slice A2 (seenC (kidT t s) d).length c2)
  refine bodyPost_ret (v:=.tuple #[.agg #[.slice none 0 0,.slice none 0 0,.slice A2 (seenC (kidT t s) d).length c2],.int .i64 0]) (by simp[results,Tryz.results141,go_sem,r0,r1,r2]) rfl ⟨_,_,_,by rw[HE.out],Qo _ _,?_,hBW⟩
  rw[HD.out]
  refine (HO2.out.sla (by unfold Big;omega)).up (fun b hb=>hK b (by have:=hb.1;omega)) (fun b hb=>⟨by have:=hb.1;omega,by rw[hS];exact hb.2.1⟩) (fun _ _ _ h=>h)
theorem qZ0 (s:ByteArray)(w:World):Calls Tryz.prog 174 #[.string s] w fun e w'=>e=.returned (.bool !keyB s)/\Below w.heap.size w w':=by
 go_enter Tryz.func174,Tryz.ntmps174
 go_wp2_with fail
 refine (ZG s _).mono ?_
 rintro e w1 ⟨rfl,hb1⟩
 go_wp2_with fail
 go_ret
 exact⟨rfl,hb1⟩
theorem qQo:∀ (t:Tr) (d:Int),t.right d=true->(t.dep:Int)<=d:=by
 intro t
 induction t using Tr.ind with
 |h es ks ih=>
 intro d h
 rw[Tr.right,Bool.and_eq_true,Bool.and_eq_true,decide_eq_true_eq]at h
 obtain⟨⟨h1,_⟩,h2⟩:=h
 rw[Tr.dep]
 have:∀ (p:Option ByteArray) (ks:List Kd),(∀ k t,(k,t)∈ks->∀ d,t.right d=true->(t.dep:Int)<=d)->Tr.rightL p ks d=true->(Tr.depL ks:Int)<=d-1:=by
  intro p ks
  induction ks generalizing p with
  |nil=>intro _ _;simp[Tr.depL];omega
  |cons x ks ih'=>
   obtain⟨k,t⟩:=x
   intro hi h
   rw[QZ,Bool.and_eq_true,Bool.and_eq_true]at h
   have a:=hi k t (by simp) _ h.1.2
   have b:=ih' (some k) (fun k t hm=>hi k t (by simp[hm])) h.2
   rw[Tr.depL];omega
 have:=this none ks ih h2
 omega
def wrapE (t:Tr)(s:ByteArray):Int:=if !(t.right 5)||!keyB s then 1 else if !empB t.es.length t.ks.length&&decide (5<t.dep+1) then 10 else 0
def wrapT (t:Tr)(s:ByteArray):Tr:=if wrapE t s=0 then (if empB t.es.length t.ks.length then t else .mk [] [(s,t)]) else .mk [] []
def RetTE (w:World)(t:Tr)(k:Int)(e:Ending)(w':World):Prop:=
 ∃ ve vk,e=.returned (.tuple #[.agg #[ve,vk],.int .i64 k])/\t.rda w' (fun b=>w.heap.size<=b/\b<w'.heap.size) ve vk/\Below w.heap.size w w'
theorem qJ5 {w w6:World}{t:Tr}{s:ByteArray}{Ae Ak:Option Addr}{ne nk:Nat}{x0 x1:Value}(hs:s.size<=Big)(g2:w6.heap[w.heap.size]?=some (.cells #[x0,x1] 25 (0,0)))
  (g4:w6.heap[w.heap.size+1]?=some (.cells #[.slice none 0 0,.slice none 0 0] 25 (0,0))) (hsw:w.heap.size+2<=w6.heap.size) (hrd:t.rda w6 (fun b=>w.heap.size+2<=b/\b<w6.heap.size) (.slice Ae t.es.length ne) (.slice Ak t.ks.length nk)) (hB:Below w.heap.size w w6) :
  ∃ W,W=((((w6.setCell ⟨w.heap.size,0,none⟩ (.slice none 0 0)).setCell ⟨w.heap.size,1,none⟩ (.slice (some ⟨w6.heap.size,0,none⟩) 1 1)).alloc (.cells #[.string s,.slice Ae t.es.length ne,.slice Ak t.ks.length nk] 96)).drew)/\W.heap[w.heap.size]?=some (.cells #[.slice none 0 0,.slice (some ⟨w6.heap.size,0,none⟩) 1 1] 25 (0,0)) /\
   (Tr.mk [] [(s,t)]).rda W (fun b=>w.heap.size+2<=b/\b<W.heap.size) (.slice none 0 0) (.slice (some ⟨w6.heap.size,0,none⟩) 1 1) /\
   W.heap[w.heap.size+1]?=some (.cells #[.slice none 0 0,.slice none 0 0] 25 (0,0))/\Below w.heap.size w W/\w.heap.size+2<=W.heap.size:=by
 have hS:((w6.setCell ⟨w.heap.size,0,none⟩ (.slice none 0 0)).setCell ⟨w.heap.size,1,none⟩ (.slice (some ⟨w6.heap.size,0,none⟩) 1 1)).heap.size=w6.heap.size:=by simp[World.setCell]
 have hK:∀ b,b≠w.heap.size->((w6.setCell ⟨w.heap.size,0,none⟩ (.slice none 0 0)).setCell ⟨w.heap.size,1,none⟩ (.slice (some ⟨w6.heap.size,0,none⟩) 1 1)).heap[b]?=w6.heap[b]?:=fun b hb=>(Below.heap_setCell _ _ _ _ hb).trans (Below.heap_setCell _ _ _ _ hb)
 have hC:=Qe (i:=1) (Qe (i:=0) g2 (.slice none 0 0)) (.slice (some ⟨w6.heap.size,0,none⟩) 1 1)
 have hBW:=(hB.setCell (p:=⟨w.heap.size,0,none⟩) (by simp) (.slice none 0 0)).setCell (p:=⟨w.heap.size,1,none⟩) (by simp) (.slice (some ⟨w6.heap.size,0,none⟩) 1 1)
 refine⟨_,rfl,?_⟩
 generalize ((w6.setCell ⟨w.heap.size,0,none⟩ (.slice none 0 0)).setCell ⟨w.heap.size,1,none⟩ (.slice (some ⟨w6.heap.size,0,none⟩) 1 1))=V at *
 refine⟨(Qg (by omega)).trans (by simpa using hC),?_,(Qg (by omega)).trans ((hK _ (by omega)).trans g4),(hBW.alloc (by omega) _).drew,by show _<=(V.alloc _).heap.size;rw[World.size_alloc];omega⟩
 rw[ZC]
 refine⟨SlA.nil,?_⟩
 have hZ:(V.alloc (.cells #[.string s,.slice Ae t.es.length ne,.slice Ak t.ks.length nk] 96)).drew.heap.size=V.heap.size+1:=World.size_alloc _ _
 have hk2:Keeps (fun b=>w.heap.size+2<=b/\b<w6.heap.size) w6 (V.alloc (.cells #[.string s,.slice Ae t.es.length ne,.slice Ak t.ks.length nk] 96)).drew:=fun b hb=>show (V.alloc (.cells #[.string s,.slice Ae t.es.length ne,.slice Ak t.ks.length nk] 96)).heap[b]?=_ from (Qg (by have:=hb.2;omega)).trans (hK b (by have:=hb.1;omega))
 have hrd2:t.rda (V.alloc (.cells #[.string s,.slice Ae t.es.length ne,.slice Ak t.ks.length nk] 96)).drew (fun b=>w.heap.size+2<=b/\b<(V.alloc (.cells #[.string s,.slice Ae t.es.length ne,.slice Ak t.ks.length nk] 96)).drew.heap.size) (.slice Ae t.es.length ne) (.slice Ak t.ks.length nk):=Qp hk2 (fun b hb=>⟨hb.1,by rw[hZ];have:=hb.2;omega⟩) _ _ _ hrd
 have hnew:(V.alloc (.cells #[.string s,.slice Ae t.es.length ne,.slice Ak t.ks.length nk] 96)).drew.heap[w6.heap.size]?=some (.cells #[.string s,.slice Ae t.es.length ne,.slice Ak t.ks.length nk] 96 (0,0)):=show (V.alloc (.cells #[.string s,.slice Ae t.es.length ne,.slice Ak t.ks.length nk] 96)).heap[w6.heap.size]?=_ from Qd hS.symm
 exact SlA.one (x:=(s,t)) (cs:=[.string s,.slice Ae t.es.length ne,.slice Ak t.ks.length nk]) (e:=96) (z:=(0,0)) ⟨_,_,rfl,hs,hrd2⟩ rfl hnew ⟨hsw,by rw[hZ];omega⟩
theorem YJ (t:Tr)(s:ByteArray)(ve vk vp:Value)(w:World)(h:t.rd w w.heap.size ve vk)(hp:SlP w w.heap.size 1 StE vp [s])(hN:t.sz<=900000) :
  Calls Tryz.prog 148 #[.agg #[ve,vk],vp] w (RetTE w (wrapT t s) (wrapE t s)):=by
 have HC:Hid (∀ w',Below w.heap.size w w'->t.rd w' w'.heap.size ve vk):=fun w' hb=>Qi hb hb.size _ _ _ h
 have HP:Hid (∀ w',Below w.heap.size w w'->SlP w' w'.heap.size 1 StE vp [s]):=fun w' hb=>hp.imp hb hb.size fun _ _ _ h=>h
 have hfit:=VV _ _ _ h
 obtain⟨hel,hkl⟩:t.es.length<=140737488355328/\t.ks.length<=140737488355328:=by obtain⟨es,ks⟩:=t;exact⟨hfit.1,hfit.2.1⟩
 obtain⟨A3,n3,A4,n4,rfl,rfl⟩:=Qk h
 obtain⟨Ap,cp,rfl,p1,p2,p3⟩:=hp
 obtain⟨bp,op,rfl,hbp,hcp⟩:=p3 (by simp)
 obtain⟨cs,⟨rfl,hsz⟩,_,hu⟩:=hcp 0 s rfl
 have hps:w.cell? ⟨bp,op,none⟩=some (.string s):=by simpa using hu 0 _ rfl
 clear hcp hu p3 h hfit
 simp only[List.length_cons,List.length_nil]at *
 have hb0:Below w.heap.size w ((w.alloc (.cells #[.slice A3 t.es.length n3,.slice A4 t.ks.length n4] 25)).alloc (.cells #[.slice none 0 0,.slice none 0 0] 25)):=((Below.refl _ w).alloc (Nat.le_refl _) _).alloc (by simp) _
 have HT:Hid (∀ w,JR 174 #[] (fun s=>!keyB s) w):=fun w=>⟨enters_of Tryz.func174 (by kernel_rfl) rfl,fun x W _ _=>qZ0 x W⟩
 go_enter Tryz.func148,Tryz.ntmps148
 have HW:Hid (∀ w',Below (w.heap.size+2) ((w.alloc (.cells #[.slice A3 t.es.length n3,.slice A4 t.ks.length n4] 25)).alloc (.cells #[.slice none 0 0,.slice none 0 0] 25)) w'->Below w.heap.size w w'/\w.heap.size+2<=w'.heap.size/\w'.heap[w.heap.size]?=some (.cells #[.slice A3 t.es.length n3,.slice A4 t.ks.length n4] 25 (0,0))/\w'.heap[w.heap.size+1]?=some (.cells #[.slice none 0 0,.slice none 0 0] 25 (0,0))/\w'.cell? ⟨bp,op,none⟩=some (.string s)):=fun w' hb=>by
  have hB:Below w.heap.size w w':=hb0.trans (hb.mono (by omega))
  refine⟨hB,by have:=hb.size;simpa using this,(hb.block _ (by omega)).trans ((Qg (by simp)).trans (Qd rfl)),(hb.block _ (by omega)).trans (Qd (by simp)),(hB.cell hbp).trans hps⟩
 have HPS:=hid hps
 clear hps
 go_wp2_with fail
 refine (QG t _ _ _ (HC.out _ hb0)).mono ?_
 rintro e w1 ⟨rfl,hb1⟩
 have hb1':=hid (hb1.mono (show w.heap.size+2<=_ by simp))
 obtain⟨hB1,hs1,g2,g4,hps⟩:=HW.out _ hb1'.out
 have HG2:=hid g2
 have HG4:=hid g4
 have c0:w1.cell? ⟨w.heap.size,0,none⟩=some (.slice A3 t.es.length n3):=Qa (i:=0) g2
 have c1:w1.cell? ⟨w.heap.size,1,none⟩=some (.slice A4 t.ks.length n4):=Qa (i:=1) g2
 have k0:w1.cell? ⟨w.heap.size+1,0,none⟩=some (.slice none 0 0):=Qa (i:=0) g4
 have k1:w1.cell? ⟨w.heap.size+1,1,none⟩=some (.slice none 0 0):=Qa (i:=1) g4
 have y0:=Qb (i:=0) g2
 have y1:=Qb (i:=1) g2
 have z0:=Qb (i:=0) g4
 have z1:=Qb (i:=1) g4
 clear g2 g4
 clear hb1
 cases hr:t.right 5
 ·have HE:Hid (wrapE t s=1):=by unfold Hid wrapE;rw[hr];rfl
  have HTT:Hid (wrapT t s=.mk [] []):=by unfold Hid wrapT;rw[HE.out];rfl
  clear hr
  go_wp2_with fail
  have hW0:=Qe (i:=1) (Qe (i:=0) HG4.out (.slice none 0 0)) (.slice none 0 0)
  have r0:=(Qa (i:=0) hW0).trans (show _=some (.slice none 0 0) by simp)
  have r1:=(Qa (i:=1) hW0).trans (show _=some (.slice none 0 0) by simp)
  refine bodyPost_ret (v:=.tuple #[.agg #[.slice none 0 0,.slice none 0 0],.int .i64 1]) (by simp[results,Tryz.results148,go_sem,r0,r1]) rfl ⟨_,_,by rw[HE.out],by rw[HTT.out];exact Qo _ _,(hB1.setCell (by simp) _).setCell (by simp) _⟩
 have hdep:=qQo t 5 hr
 go_wp2_with fail
 refine (X8 (fun s=>!keyB s) _ _ [s] _ w1 (HP.out _ hB1) (HT.out w1)).mono ?_
 rintro e w2 ⟨rfl,hb2⟩
 rw[show List.any [s] (fun s=>!keyB s) = !keyB s by simp]
 clear c0 c1 k0 k1 y0 y1 z0 z1 hps HG2 HG4
 have hb2':=hid (hb1'.out.trans (hb2.mono hs1))
 obtain⟨hB2,hs2,g2,g4,hps⟩:=HW.out _ hb2'.out
 have HG2:=hid g2
 have HG4:=hid g4
 have c0:w2.cell? ⟨w.heap.size,0,none⟩=some (.slice A3 t.es.length n3):=Qa (i:=0) g2
 have c1:w2.cell? ⟨w.heap.size,1,none⟩=some (.slice A4 t.ks.length n4):=Qa (i:=1) g2
 have k0:w2.cell? ⟨w.heap.size+1,0,none⟩=some (.slice none 0 0):=Qa (i:=0) g4
 have k1:w2.cell? ⟨w.heap.size+1,1,none⟩=some (.slice none 0 0):=Qa (i:=1) g4
 have y0:=Qb (i:=0) g2
 have y1:=Qb (i:=1) g2
 have z0:=Qb (i:=0) g4
 have z1:=Qb (i:=1) g4
 clear g2 g4
 clear hb2
 cases hk:keyB s
 ·have HE:Hid (wrapE t s=1):=by unfold Hid wrapE;rw[hr,hk];rfl
  have HTT:Hid (wrapT t s=.mk [] []):=by unfold Hid wrapT;rw[HE.out];rfl
  clear hr hk
  go_wp2_with fail
  have hW0:=Qe (i:=1) (Qe (i:=0) HG4.out (.slice none 0 0)) (.slice none 0 0)
  have r0:=(Qa (i:=0) hW0).trans (show _=some (.slice none 0 0) by simp)
  have r1:=(Qa (i:=1) hW0).trans (show _=some (.slice none 0 0) by simp)
  refine bodyPost_ret (v:=.tuple #[.agg #[.slice none 0 0,.slice none 0 0],.int .i64 1]) (by simp[results,Tryz.results148,go_sem,r0,r1]) rfl ⟨_,_,by rw[HE.out],by rw[HTT.out];exact Qo _ _,(hB2.setCell (by simp) _).setCell (by simp) _⟩
 go_wp2_with fail
 refine (QF t.es.length t.ks.length A3 A4 n3 n4 w2).mono ?_
 rintro e w3 ⟨rfl,hb3⟩
 clear c0 c1 k0 k1 y0 y1 z0 z1 hps HG2 HG4
 have hb3':=hid (hb2'.out.trans (hb3.mono hs2))
 obtain⟨hB3,hs3,g2,g4,hps⟩:=HW.out _ hb3'.out
 have HG2:=hid g2
 have HG4:=hid g4
 have c0:w3.cell? ⟨w.heap.size,0,none⟩=some (.slice A3 t.es.length n3):=Qa (i:=0) g2
 have c1:w3.cell? ⟨w.heap.size,1,none⟩=some (.slice A4 t.ks.length n4):=Qa (i:=1) g2
 have k0:w3.cell? ⟨w.heap.size+1,0,none⟩=some (.slice none 0 0):=Qa (i:=0) g4
 have k1:w3.cell? ⟨w.heap.size+1,1,none⟩=some (.slice none 0 0):=Qa (i:=1) g4
 have y0:=Qb (i:=0) g2
 have y1:=Qb (i:=1) g2
 have z0:=Qb (i:=0) g4
 have z1:=Qb (i:=1) g4
 clear g2 g4
 clear hb3
 cases hm:empB t.es.length t.ks.length
 ·go_wp2_with fail
  refine (qVp t w3 _ _ (HC.out _ hB3) (by omega)).mono ?_
  rintro e w4 ⟨rfl,hb4⟩
  clear c0 c1 k0 k1 y0 y1 z0 z1 hps HG2 HG4
  have hb4':=hid (hb3'.out.trans (hb4.mono hs3))
  obtain⟨hB4,hs4,g2,g4,hps⟩:=HW.out _ hb4'.out
  have HG2:=hid g2
  have HG4:=hid g4
  have c0:w4.cell? ⟨w.heap.size,0,none⟩=some (.slice A3 t.es.length n3):=Qa (i:=0) g2
  have c1:w4.cell? ⟨w.heap.size,1,none⟩=some (.slice A4 t.ks.length n4):=Qa (i:=1) g2
  have k0:w4.cell? ⟨w.heap.size+1,0,none⟩=some (.slice none 0 0):=Qa (i:=0) g4
  have k1:w4.cell? ⟨w.heap.size+1,1,none⟩=some (.slice none 0 0):=Qa (i:=1) g4
  have y0:=Qb (i:=0) g2
  have y1:=Qb (i:=1) g2
  have z0:=Qb (i:=0) g4
  have z1:=Qb (i:=1) g4
  clear g2 g4
  clear hb4
  cases hd:decide (5<t.dep+1)
  ·have HE:Hid (wrapE t s=0):=by unfold Hid wrapE;rw[hr,hk,hm,hd];rfl
   have HTT:Hid (wrapT t s=.mk [] [(s,t)]):=by unfold Hid wrapT;rw[HE.out,hm];rfl
   have hd1:decide ((5:Int)<(t.dep:Int)+1)=false:=by simp at hd ⊢;omega
   clear hr hk hd
   go_wp2_with fail
   refine (YW t w4 _ _ (HC.out _ hB4) hN).mono ?_
   rintro e w5 ⟨vc,vd,rfl,hrd,hb5⟩
   obtain⟨A5,n5,A6,n6,rfl,rfl⟩:=Qj hrd
   clear c0 c1 k0 k1 y0 y1 z0 z1 hps HG2 HG4
   have hb5':=hid (hb4'.out.trans (hb5.mono hs4))
   obtain⟨hB5,hs5,g2,g4,hps⟩:=HW.out _ hb5'.out
   have HG2:=hid g2
   have HG4:=hid g4
   have c0:w5.cell? ⟨w.heap.size,0,none⟩=some (.slice A3 t.es.length n3):=Qa (i:=0) g2
   have c1:w5.cell? ⟨w.heap.size,1,none⟩=some (.slice A4 t.ks.length n4):=Qa (i:=1) g2
   have k0:w5.cell? ⟨w.heap.size+1,0,none⟩=some (.slice none 0 0):=Qa (i:=0) g4
   have k1:w5.cell? ⟨w.heap.size+1,1,none⟩=some (.slice none 0 0):=Qa (i:=1) g4
   have y0:=Qb (i:=0) g2
   have y1:=Qb (i:=1) g2
   have z0:=Qb (i:=0) g4
   have z1:=Qb (i:=1) g4
   clear g2 g4
   clear hb5
   have HRD:Hid (t.rda w5 (fun b=>w.heap.size+2<=b/\b<w5.heap.size) (.slice A5 t.es.length n5) (.slice A6 t.ks.length n6)):=Qp (fun _ _=>rfl) (fun b hb=>⟨by have:=hb.1;omega,hb.2⟩) _ _ _ hrd
   clear hrd
   go_wp2_with fail
   obtain⟨r0,r1,r2,r3⟩:=ZI HG2.out HRD.out (fun b hb=>by have:=hb.1;omega)
   have r4:((w5.setCell ⟨w.heap.size,0,none⟩ (.slice A5 t.es.length n5)).setCell ⟨w.heap.size,1,none⟩ (.slice A6 t.ks.length n6)).heap[w.heap.size]?=some (.cells #[.slice A5 t.es.length n5,.slice A6 t.ks.length n6] 25 (0,0)):=by simpa using Qe (i:=1) (Qe (i:=0) HG2.out (.slice A5 t.es.length n5)) (.slice A6 t.ks.length n6)
   have r5:((w5.setCell ⟨w.heap.size,0,none⟩ (.slice A5 t.es.length n5)).setCell ⟨w.heap.size,1,none⟩ (.slice A6 t.ks.length n6)).heap[w.heap.size+1]?=some (.cells #[.slice none 0 0,.slice none 0 0] 25 (0,0)):=(Below.heap_setCell _ _ _ _ (by simp)).trans ((Below.heap_setCell _ _ _ _ (by simp)).trans HG4.out)
   have r6:Below w.heap.size w ((w5.setCell ⟨w.heap.size,0,none⟩ (.slice A5 t.es.length n5)).setCell ⟨w.heap.size,1,none⟩ (.slice A6 t.ks.length n6)):=(hB5.setCell (by simp) _).setCell (by simp) _
   clear c0 c1 k0 k1 y0 y1 z0 z1 hps HG2 HG4
   generalize ((w5.setCell ⟨w.heap.size,0,none⟩ (.slice A5 t.es.length n5)).setCell ⟨w.heap.size,1,none⟩ (.slice A6 t.ks.length n6))=W5 at *
   go_loopw [6] (fun i wr=>∃ T Ae ne Ak nk,wr.heap[w.heap.size]?=some (.cells #[.slice Ae T.es.length ne,.slice Ak T.ks.length nk] 25 (0,0))/\T.rda wr (fun b=>w.heap.size+2<=b/\b<wr.heap.size) (.slice Ae T.es.length ne) (.slice Ak T.ks.length nk) /\
     wr.heap[w.heap.size+1]?=some (.cells #[.slice none 0 0,.slice none 0 0] 25 (0,0))/\Below w.heap.size w wr/\w.heap.size+2<=wr.heap.size/\((i=.int .i64 0/\T=t)∨(i=.int .i64 (-1)/\Hid (empB t.es.length t.ks.length=false)/\T=.mk [] [(s,t)]))) (fun i _=>(intOf i+1).toNat)
   case atStart=>exact⟨t,A5,n5,A6,n6,r4,by rw[r3];exact r2,r5,r6,by omega,.inl ⟨rfl,rfl⟩⟩
   case round=>
    obtain⟨T,Ae,ne,Ak,nk,hg2,hrd,hg4,hB,hsw,hT⟩:=hrel
    clear r0 r1 r2 r3 r4 r5 r6
    have c0:wr.cell? ⟨w.heap.size,0,none⟩=some (.slice Ae T.es.length ne):=Qa (i:=0) hg2
    have c1:wr.cell? ⟨w.heap.size,1,none⟩=some (.slice Ak T.ks.length nk):=Qa (i:=1) hg2
    have k0:wr.cell? ⟨w.heap.size+1,0,none⟩=some (.slice none 0 0):=Qa (i:=0) hg4
    have k1:wr.cell? ⟨w.heap.size+1,1,none⟩=some (.slice none 0 0):=Qa (i:=1) hg4
    have y0:=Qb (i:=0) hg2
    have y1:=Qb (i:=1) hg2
    have z0:=Qb (i:=0) hg4
    have z1:=Qb (i:=1) hg4
    have HG2:=hid hg2
    have HG4:=hid hg4
    have HRDW:=hid hrd
    clear hg2 hg4 hrd
    rcases hT with⟨rfl,hTt⟩|⟨rfl,hTt⟩
    ·have hTt':=hTt.symm
     subst hTt'
     go_wp2_with fail
     refine (QF t.es.length t.ks.length Ae Ak ne nk wr).mono ?_
     rw[hm]
     rintro e w6 ⟨rfl,hb6⟩
     have hs6:=hb6.size
     have hB6:Below w.heap.size w w6:=hB.trans (hb6.mono (by omega))
     have g2:=(hb6.block _ (by omega)).trans HG2.out
     have g4:=(hb6.block _ (by omega)).trans HG4.out
     clear c0 c1 k0 k1 y0 y1 z0 z1
     have c0:w6.cell? ⟨w.heap.size,0,none⟩=some (.slice Ae t.es.length ne):=Qa (i:=0) g2
     have c1:w6.cell? ⟨w.heap.size,1,none⟩=some (.slice Ak t.ks.length nk):=Qa (i:=1) g2
     have y0:=Qb (i:=0) g2
     have y1:=Qb (i:=1) g2
     have hps6:w6.cell? ⟨bp,op,none⟩=some (.string s):=(hB6.cell hbp).trans HPS.out
     have HG2:=hid g2
     have HG4:=hid g4
     have hlt6:w.heap.size<w6.heap.size:=by omega
     have hne6:w.heap.size≠w6.heap.size:=by omega
     have HM:=hid hm
     clear g2 g4 hm
     go_upto_region 9 with (fail)
     go_region_with (fail)
     all_goals (
      obtain⟨W,hW,a1,a2,a3,a4,a5⟩:=qJ5 (s:=s) hsz HG2.out HG4.out (by omega) (Qp (fun b hb=>hb6.block b hb.2) (fun b hb=>⟨hb.1,by have:=hb.2;omega⟩) _ _ _ HRDW.out) hB6
      rw[←hW]
      clear hW c0 c1 y0 y1 hps6
      go_wp2_with fail
      go_roundw
      case rel=>exact⟨.mk [] [(s,t)],none,0,some ⟨w6.heap.size,0,none⟩,1,a1,a2,a3,a4,a5,.inr ⟨by go_num,HM,rfl⟩⟩
      case measure=>simp[intOf])
    ·obtain⟨_,hTt⟩:=hTt
     subst hTt
     go_wp2_with fail
     obtain⟨r0,r1,r2,r3⟩:=ZI HG4.out HRDW.out (fun b hb=>by have:=hb.1;omega)
     have hBW:Below w.heap.size w ((wr.setCell ⟨w.heap.size+1,0,none⟩ (.slice Ae (Tr.mk [] [(s,t)]).es.length ne)).setCell ⟨w.heap.size+1,1,none⟩ (.slice Ak (Tr.mk [] [(s,t)]).ks.length nk)):=(hB.setCell (by simp) _).setCell (by simp) _
     generalize ((wr.setCell ⟨w.heap.size+1,0,none⟩ (.slice Ae (Tr.mk [] [(s,t)]).es.length ne)).setCell ⟨w.heap.size+1,1,none⟩ (.slice Ak (Tr.mk [] [(s,t)]).ks.length nk))=W at *
     refine bodyPost_ret (v:=.tuple #[.agg #[.slice Ae (Tr.mk [] [(s,t)]).es.length ne,.slice Ak (Tr.mk [] [(s,t)]).ks.length nk],.int .i64 0]) (by simp[results,Tryz.results148,go_sem,r0,r1]) rfl ⟨_,_,by rw[HE.out],by rw[HTT.out];exact Qp (fun _ _=>rfl) (fun b hb=>⟨by have:=hb.1;omega,by have:=hb.2;omega⟩) _ _ _ r2,hBW⟩
  ·have HE:Hid (wrapE t s=10):=by unfold Hid wrapE;rw[hr,hk,hm,hd];rfl
   have HTT:Hid (wrapT t s=.mk [] []):=by unfold Hid wrapT;rw[HE.out];rfl
   have hd1:decide ((5:Int)<(t.dep:Int)+1)=true:=by simp at hd ⊢;omega
   clear hr hk hm hd
   go_wp2_with fail
   have hW0:=Qe (i:=1) (Qe (i:=0) HG4.out (.slice none 0 0)) (.slice none 0 0)
   have r0:=(Qa (i:=0) hW0).trans (show _=some (.slice none 0 0) by simp)
   have r1:=(Qa (i:=1) hW0).trans (show _=some (.slice none 0 0) by simp)
   refine bodyPost_ret (v:=.tuple #[.agg #[.slice none 0 0,.slice none 0 0],.int .i64 10]) (by simp[results,Tryz.results148,go_sem,r0,r1]) rfl ⟨_,_,by rw[HE.out],by rw[HTT.out];exact Qo _ _,(hB4.setCell (by simp) _).setCell (by simp) _⟩
 ·have HE:Hid (wrapE t s=0):=by unfold Hid wrapE;rw[hr,hk,hm];rfl
  have HTT:Hid (wrapT t s=t):=by unfold Hid wrapT;rw[HE.out,hm];rfl
  clear hr hk
  go_wp2_with fail
  refine (YW t w3 _ _ (HC.out _ hB3) hN).mono ?_
  rintro e w5 ⟨vc,vd,rfl,hrd,hb5⟩
  obtain⟨A5,n5,A6,n6,rfl,rfl⟩:=Qj hrd
  clear c0 c1 k0 k1 y0 y1 z0 z1 hps HG2 HG4
  have hb5':=hid (hb3'.out.trans (hb5.mono hs3))
  obtain⟨hB5,hs5,g2,g4,hps⟩:=HW.out _ hb5'.out
  have HG2:=hid g2
  have HG4:=hid g4
  have c0:w5.cell? ⟨w.heap.size,0,none⟩=some (.slice A3 t.es.length n3):=Qa (i:=0) g2
  have c1:w5.cell? ⟨w.heap.size,1,none⟩=some (.slice A4 t.ks.length n4):=Qa (i:=1) g2
  have k0:w5.cell? ⟨w.heap.size+1,0,none⟩=some (.slice none 0 0):=Qa (i:=0) g4
  have k1:w5.cell? ⟨w.heap.size+1,1,none⟩=some (.slice none 0 0):=Qa (i:=1) g4
  have y0:=Qb (i:=0) g2
  have y1:=Qb (i:=1) g2
  have z0:=Qb (i:=0) g4
  have z1:=Qb (i:=1) g4
  clear g2 g4
  clear hb5
  have HRD:Hid (t.rda w5 (fun b=>w.heap.size+2<=b/\b<w5.heap.size) (.slice A5 t.es.length n5) (.slice A6 t.ks.length n6)):=Qp (fun _ _=>rfl) (fun b hb=>⟨by have:=hb.1;omega,hb.2⟩) _ _ _ hrd
  clear hrd
  go_wp2_with fail
  obtain⟨r0,r1,r2,r3⟩:=ZI HG2.out HRD.out (fun b hb=>by have:=hb.1;omega)
  have r4:((w5.setCell ⟨w.heap.size,0,none⟩ (.slice A5 t.es.length n5)).setCell ⟨w.heap.size,1,none⟩ (.slice A6 t.ks.length n6)).heap[w.heap.size]?=some (.cells #[.slice A5 t.es.length n5,.slice A6 t.ks.length n6] 25 (0,0)):=by simpa using Qe (i:=1) (Qe (i:=0) HG2.out (.slice A5 t.es.length n5)) (.slice A6 t.ks.length n6)
  have r5:((w5.setCell ⟨w.heap.size,0,none⟩ (.slice A5 t.es.length n5)).setCell ⟨w.heap.size,1,none⟩ (.slice A6 t.ks.length n6)).heap[w.heap.size+1]?=some (.cells #[.slice none 0 0,.slice none 0 0] 25 (0,0)):=(Below.heap_setCell _ _ _ _ (by simp)).trans ((Below.heap_setCell _ _ _ _ (by simp)).trans HG4.out)
  have r6:Below w.heap.size w ((w5.setCell ⟨w.heap.size,0,none⟩ (.slice A5 t.es.length n5)).setCell ⟨w.heap.size,1,none⟩ (.slice A6 t.ks.length n6)):=(hB5.setCell (by simp) _).setCell (by simp) _
  clear c0 c1 k0 k1 y0 y1 z0 z1 hps HG2 HG4
  generalize ((w5.setCell ⟨w.heap.size,0,none⟩ (.slice A5 t.es.length n5)).setCell ⟨w.heap.size,1,none⟩ (.slice A6 t.ks.length n6))=W5 at *
  go_loopw [6] (fun i wr=>∃ T Ae ne Ak nk,wr.heap[w.heap.size]?=some (.cells #[.slice Ae T.es.length ne,.slice Ak T.ks.length nk] 25 (0,0))/\T.rda wr (fun b=>w.heap.size+2<=b/\b<wr.heap.size) (.slice Ae T.es.length ne) (.slice Ak T.ks.length nk) /\
    wr.heap[w.heap.size+1]?=some (.cells #[.slice none 0 0,.slice none 0 0] 25 (0,0))/\Below w.heap.size w wr/\w.heap.size+2<=wr.heap.size/\((i=.int .i64 0/\T=t)∨(i=.int .i64 (-1)/\Hid (empB t.es.length t.ks.length=false)/\T=.mk [] [(s,t)]))) (fun i _=>(intOf i+1).toNat)
  case atStart=>exact⟨t,A5,n5,A6,n6,r4,by rw[r3];exact r2,r5,r6,by omega,.inl ⟨rfl,rfl⟩⟩
  case round=>
   obtain⟨T,Ae,ne,Ak,nk,hg2,hrd,hg4,hB,hsw,hT⟩:=hrel
   clear r0 r1 r2 r3 r4 r5 r6
   have c0:wr.cell? ⟨w.heap.size,0,none⟩=some (.slice Ae T.es.length ne):=Qa (i:=0) hg2
   have c1:wr.cell? ⟨w.heap.size,1,none⟩=some (.slice Ak T.ks.length nk):=Qa (i:=1) hg2
   have k0:wr.cell? ⟨w.heap.size+1,0,none⟩=some (.slice none 0 0):=Qa (i:=0) hg4
   have k1:wr.cell? ⟨w.heap.size+1,1,none⟩=some (.slice none 0 0):=Qa (i:=1) hg4
   have y0:=Qb (i:=0) hg2
   have y1:=Qb (i:=1) hg2
   have z0:=Qb (i:=0) hg4
   have z1:=Qb (i:=1) hg4
   have HG2:=hid hg2
   have HG4:=hid hg4
   have HRDW:=hid hrd
   clear hg2 hg4 hrd
   rcases hT with⟨rfl,hTt⟩|⟨rfl,hTt⟩
   ·have hTt':=hTt.symm
    subst hTt'
    go_wp2_with fail
    refine (QF t.es.length t.ks.length Ae Ak ne nk wr).mono ?_
    rw[hm]
    rintro e w6 ⟨rfl,hb6⟩
    have hs6:=hb6.size
    have hB6:Below w.heap.size w w6:=hB.trans (hb6.mono (by omega))
    have g2:=(hb6.block _ (by omega)).trans HG2.out
    have g4:=(hb6.block _ (by omega)).trans HG4.out
    clear c0 c1 k0 k1 y0 y1 z0 z1
    have c0:w6.cell? ⟨w.heap.size,0,none⟩=some (.slice Ae t.es.length ne):=Qa (i:=0) g2
    have c1:w6.cell? ⟨w.heap.size,1,none⟩=some (.slice Ak t.ks.length nk):=Qa (i:=1) g2
    have k0:w6.cell? ⟨w.heap.size+1,0,none⟩=some (.slice none 0 0):=Qa (i:=0) g4
    have k1:w6.cell? ⟨w.heap.size+1,1,none⟩=some (.slice none 0 0):=Qa (i:=1) g4
    have z0:=Qb (i:=0) g4
    have z1:=Qb (i:=1) g4
    have HG4:=hid g4
    clear g2 g4 hm
    go_wp2_with fail
    obtain⟨r0,r1,r2,r3⟩:=ZI HG4.out (Qp (fun b hb=>hb6.block b hb.2) (fun b hb=>(⟨hb.1,by have:=hb.2;omega⟩:w.heap.size+2<=b/\b<w6.heap.size)) _ _ _ HRDW.out) (fun b hb=>by have:=hb.1;omega)
    have hBW:Below w.heap.size w ((w6.setCell ⟨w.heap.size+1,0,none⟩ (.slice Ae t.es.length ne)).setCell ⟨w.heap.size+1,1,none⟩ (.slice Ak t.ks.length nk)):=(hB6.setCell (by simp) _).setCell (by simp) _
    generalize ((w6.setCell ⟨w.heap.size+1,0,none⟩ (.slice Ae t.es.length ne)).setCell ⟨w.heap.size+1,1,none⟩ (.slice Ak t.ks.length nk))=W at *
    refine bodyPost_ret (v:=.tuple #[.agg #[.slice Ae t.es.length ne,.slice Ak t.ks.length nk],.int .i64 0]) (by simp[results,Tryz.results148,go_sem,r0,r1]) rfl ⟨_,_,by rw[HE.out],by rw[HTT.out];exact Qp (fun _ _=>rfl) (fun b hb=>⟨by have:=hb.1;omega,by have:=hb.2;omega⟩) _ _ _ r2,hBW⟩
   ·exact absurd (hTt.1.symm.trans hm) (by simp)
def addE (t:Tr)(s:ByteArray)(d:Dt):Int:=if !sckB t s d then 1 else if decide (24<=t.ks.length)&&!hasK t s then 4 else 0
def oneE (d:Dt):Tr:=.mk [⟨d.dc,d.n,ByteArray.empty,0⟩] []
def addT (t:Tr)(s:ByteArray)(d:Dt):Tr:=if addE t s d=0 then .mk [] [(s,oneE d)] else .mk [] []
def addC (t:Tr)(s:ByteArray)(d:Dt):List Sp:=if addE t s d=0 then seenC (kidT t s) d else []
theorem zZ0 {d:Dt}(hd:d.Ok):EnE (⟨d.dc,d.n,ByteArray.empty,0⟩:En) [.int .i64 d.dc,.int .i64 d.n,.string ByteArray.empty,.int .i64 0]:=⟨rfl,En.Ok.mk' hd ⟨by decide,by decide⟩⟩
theorem qJ6 {d:Dt}(h:d.right=true):(oneE d).right 5=true:=by
 unfold oneE
 rw[Tr.right,Tr.rightL]
 simp[entsB,En.right,okP,En.dot]
 exact h
theorem qQp {d:Dt}{s:ByteArray}(h:d.right=true)(hk:keyB s=true):wrapE (oneE d) s=0/\wrapT (oneE d) s=.mk [] [(s,oneE d)]:=by
 have hE:wrapE (oneE d) s=0:=by
  unfold wrapE
  rw[qJ6 h,hk]
  rfl
 refine⟨hE,?_⟩
 unfold wrapT
 rw[hE,if_pos rfl]
 rfl
theorem zQn (t:Tr)(s:ByteArray)(d:Dt)(ve vk:Value)(w:World)(h:t.rd w w.heap.size ve vk)(hs:s.size<=Big)(hN:t.sz<=4000)(hd:d.Ok) :
  Calls Tryz.prog 140 #[.agg #[ve,vk],.string s,.agg #[.int .i64 d.dc,.int .i64 d.n]] w (RetCE w (addT t s d) (addC t s d) (addE t s d)):=by
 have hsc:=Yo (kidT t s) d
 have hkz:=YG t s
 have HC:Hid (∀ w',Below w.heap.size w w'->t.rd w' w'.heap.size ve vk):=fun w' hb=>Qi hb hb.size _ _ _ h
 obtain⟨A3,n3,A4,n4,rfl,rfl⟩:=Qk h
 have hb0:=(((Below.refl w.heap.size w).alloc (Nat.le_refl _) (.cells #[.slice A3 t.es.length n3,.slice A4 t.ks.length n4] 25)).alloc (by simp) (.cells #[.int .i64 d.dc,.int .i64 d.n] 78)).alloc (by simp;omega) (.cells #[.slice none 0 0,.slice none 0 0,.slice none 0 0] 29)
 clear h
 go_enter Tryz.func140,Tryz.ntmps140
 go_wp2_with fail
 refine (K9 t s d _ _ _ (HC.out _ hb0) hs (by omega)).mono ?_
 rintro e w1 ⟨rfl,hb1⟩
 have hs1:=hb1.size
 simp only[World.size_alloc]at hs1
 have hB1:Below w.heap.size w w1:=hb0.trans (hb1.mono (by simp;omega))
 have c0:w1.cell? ⟨w.heap.size,0,none⟩=some (.slice A3 t.es.length n3):=by
  rw[hb1.cell (p:=⟨w.heap.size,0,none⟩) (by simp;omega)]
  rw[World.cell?_alloc_lt _ _ _ (by simp;omega),World.cell?_alloc_lt _ _ _ (by simp)];simp
 have c1:w1.cell? ⟨w.heap.size,1,none⟩=some (.slice A4 t.ks.length n4):=by
  rw[hb1.cell (p:=⟨w.heap.size,1,none⟩) (by simp;omega)]
  rw[World.cell?_alloc_lt _ _ _ (by simp;omega),World.cell?_alloc_lt _ _ _ (by simp)];simp
 have d0:w1.cell? ⟨w.heap.size+1,0,none⟩=some (.int .i64 d.dc):=by rw[hb1.cell (p:=⟨w.heap.size+1,0,none⟩) (by simp),World.cell?_alloc_lt _ _ _ (by simp)];simp
 have d1:w1.cell? ⟨w.heap.size+1,1,none⟩=some (.int .i64 d.n):=by rw[hb1.cell (p:=⟨w.heap.size+1,1,none⟩) (by simp),World.cell?_alloc_lt _ _ _ (by simp)];simp
 have hg:w1.heap[w.heap.size+2]?=some (.cells #[.slice none 0 0,.slice none 0 0,.slice none 0 0] 29 (0,0)):=(hb1.block (w.heap.size+2) (by simp)).trans (Qd (by simp))
 have HG:=hid hg
 have k0:w1.cell? ⟨w.heap.size+2,0,none⟩=some (.slice none 0 0):=Qa (i:=0) hg
 have k1:w1.cell? ⟨w.heap.size+2,1,none⟩=some (.slice none 0 0):=Qa (i:=1) hg
 have k2:w1.cell? ⟨w.heap.size+2,2,none⟩=some (.slice none 0 0):=Qa (i:=2) hg
 have z0:=Qb (i:=0) hg
 have z1:=Qb (i:=1) hg
 have z2:=Qb (i:=2) hg
 clear hg hb1
 have HK1:Hid (∀ w',Below w1.heap.size w1 w'->Below w.heap.size w w'/\w1.heap.size<=w'.heap.size/\w'.cell? ⟨w.heap.size,0,none⟩=some (.slice A3 t.es.length n3)/\w'.cell? ⟨w.heap.size,1,none⟩=some (.slice A4 t.ks.length n4)/\w'.cell? ⟨w.heap.size+1,0,none⟩=some (.int .i64 d.dc)/\w'.cell? ⟨w.heap.size+1,1,none⟩=some (.int .i64 d.n)/\w'.heap[w.heap.size+2]?=some (.cells #[.slice none 0 0,.slice none 0 0,.slice none 0 0] 29 (0,0))):=fun w' hb=>
  ⟨hB1.trans (hb.mono (by omega)),hb.size,(hb.cell (p:=⟨w.heap.size,0,none⟩) (by show w.heap.size<_;omega)).trans c0,(hb.cell (p:=⟨w.heap.size,1,none⟩) (by show w.heap.size<_;omega)).trans c1,(hb.cell (p:=⟨w.heap.size+1,0,none⟩) (by show w.heap.size+1<_;omega)).trans d0,(hb.cell (p:=⟨w.heap.size+1,1,none⟩) (by show w.heap.size+1<_;omega)).trans d1,(hb.block _ (by omega)).trans HG.out⟩
 clear c0 c1 d0 d1 k0 k1 k2 z0 z1 z2
 have hb1':=hid (Below.refl w1.heap.size w1)
 obtain⟨hB1,hs1,c0,c1,d0,d1,g6⟩:=HK1.out _ hb1'.out
 have HG1:=hid g6
 have k0:w1.cell? ⟨w.heap.size+2,0,none⟩=some (.slice none 0 0):=Qa (i:=0) g6
 have k1:w1.cell? ⟨w.heap.size+2,1,none⟩=some (.slice none 0 0):=Qa (i:=1) g6
 have k2:w1.cell? ⟨w.heap.size+2,2,none⟩=some (.slice none 0 0):=Qa (i:=2) g6
 have z0:=Qb (i:=0) g6
 have z1:=Qb (i:=1) g6
 have z2:=Qb (i:=2) g6
 clear g6
 cases hc:sckB t s d
 ·have HI:Hid (sckI t s d=1):=by unfold Hid sckI;rw[hc];rfl
  have HE:Hid (addE t s d=1):=by unfold Hid addE;rw[hc];rfl
  have HTT:Hid (addT t s d=.mk [] []):=by unfold Hid addT;rw[HE.out];rfl
  have HCC:Hid (addC t s d=[]):=by unfold Hid addC;rw[HE.out];rfl
  rw[HI.out]
  clear hc
  go_wp2_with fail
  obtain⟨r0,r1,r2,hK,hS⟩:=box3 HG1.out (.slice none 0 0) (.slice none 0 0) (.slice none 0 0)
  have hBW:=((hB1.setCell (p:=⟨w.heap.size+2,0,none⟩) (by simp) (.slice none 0 0)).setCell (p:=⟨w.heap.size+2,1,none⟩) (by simp) (.slice none 0 0)).setCell (p:=⟨w.heap.size+2,2,none⟩) (by simp) (.slice none 0 0)
  refine bodyPost_ret (v:=.tuple #[.agg #[.slice none 0 0,.slice none 0 0,.slice none 0 0],.int .i64 1]) (by simp[results,Tryz.results140,go_sem,r0,r1,r2]) rfl ⟨_,_,_,by rw[HE.out],by rw[HTT.out];exact Qo _ _,by rw[HCC.out];exact SlA.nil,hBW⟩
 have HI:Hid (sckI t s d=0):=by unfold Hid sckI;rw[hc];rfl
 have HDR:=hid (Zt (Je hc).1)
 have HTR:=hid (Ym (Je hc).1)
 have HWE:=hid (qQp HDR.out (Je hc).2).1
 have HWT:=hid (qQp HDR.out (Je hc).2).2
 rw[HI.out]
 have hfi:decide ((24:Int)<=(t.ks.length:Int))=decide (24<=t.ks.length):=by rw[Bool.eq_iff_iff];simp;omega
 cases fl:decide (24<=t.ks.length)
 ·have HE:Hid (addE t s d=0):=by unfold Hid addE;rw[hc,fl];rfl
  have HTT:Hid (addT t s d=.mk [] [(s,oneE d)]):=by unfold Hid addT;rw[HE.out,if_pos rfl]
  have HCC:Hid (addC t s d=seenC (kidT t s) d):=by unfold Hid addC;rw[HE.out,if_pos rfl]
  rw[fl]at hfi
  clear hc fl
  have hltn:w.heap.size+2<w1.heap.size:=by omega
  have hen:SlP ((w1.alloc (.cells #[.int .i64 d.dc,.int .i64 d.n,.string ByteArray.empty,.int .i64 0] 80)).alloc (.cells #[.string s] 9)) ((w1.alloc (.cells #[.int .i64 d.dc,.int .i64 d.n,.string ByteArray.empty,.int .i64 0] 80)).alloc (.cells #[.string s] 9)).heap.size 4 EnE (.slice (some ⟨w1.heap.size,0,none⟩) 1 1) [(⟨d.dc,d.n,ByteArray.empty,0⟩:En)]:=
   (SlP.one (x:=(⟨d.dc,d.n,ByteArray.empty,0⟩:En)) (zZ0 hd) rfl 80 rfl).imp ((Below.refl _ _).alloc (by rw[World.size_alloc];omega) _) (by rw[World.size_alloc,World.size_alloc];omega) fun _ _ _ h=>h
  have HEN:Hid ((oneE d).rd ((w1.alloc (.cells #[.int .i64 d.dc,.int .i64 d.n,.string ByteArray.empty,.int .i64 0] 80)).alloc (.cells #[.string s] 9)) ((w1.alloc (.cells #[.int .i64 d.dc,.int .i64 d.n,.string ByteArray.empty,.int .i64 0] 80)).alloc (.cells #[.string s] 9)).heap.size (.slice (some ⟨w1.heap.size,0,none⟩) 1 1) (.slice none 0 0)):=QE.2 ⟨hen,SlP.nil⟩
  clear hen
  go_wp2_with fail
  refine (YJ (oneE d) s _ _ _ _ HEN.out (SlP.oneB (E:=StE) (n:=w1.heap.size+1) (x:=s) (cs:=[.string s]) ⟨rfl,hs⟩ rfl _ (by simp) (by simp)) (by simp[oneE,Tr.sz,Tr.szL])).mono ?_
  rw[HWE.out,HWT.out]
  rintro e w5 ⟨v5,u5,rfl,hrd5,hb5⟩
  generalize (Tr.mk [] [(s,oneE d)]:Tr)=T at *
  obtain⟨A8,n8,A9,n9,rfl,rfl⟩:=Qj hrd5
  have hs5:=hb5.size
  simp only[World.size_alloc]at hs5
  clear c0 c1 d0 d1 k0 k1 k2 z0 z1 z2
  have hb5':=hid (hb1'.out.trans ((((Below.refl w1.heap.size w1).alloc (Nat.le_refl _) _).alloc (by rw[World.size_alloc];omega) _).trans (hb5.mono (show w1.heap.size<=_ by simp only[World.size_alloc];omega)) |>.mono hs1))
  obtain⟨hB5,hs5,c0,c1,d0,d1,g6⟩:=HK1.out _ hb5'.out
  have HG5:=hid g6
  have k0:w5.cell? ⟨w.heap.size+2,0,none⟩=some (.slice none 0 0):=Qa (i:=0) g6
  have k1:w5.cell? ⟨w.heap.size+2,1,none⟩=some (.slice none 0 0):=Qa (i:=1) g6
  have k2:w5.cell? ⟨w.heap.size+2,2,none⟩=some (.slice none 0 0):=Qa (i:=2) g6
  have z0:=Qb (i:=0) g6
  have z1:=Qb (i:=1) g6
  have z2:=Qb (i:=2) g6
  clear g6
  clear hb5
  have hlt2:w.heap.size+2<w5.heap.size:=by omega
  have hne2:w.heap.size+2≠w5.heap.size:=by omega
  have hlt1:w.heap.size+1<w5.heap.size:=by omega
  have hne1:w.heap.size+1≠w5.heap.size:=by omega
  have hlt0:w.heap.size<w5.heap.size:=by omega
  have hne0:w.heap.size≠w5.heap.size:=by omega
  have HX:Hid (∀ w',Below (w5.heap.size+1) (w5.alloc (.cells #[.slice A8 T.es.length n8,.slice A9 T.ks.length n9] 25)) w'->Below w5.heap.size w5 w'/\(w'.cell? ⟨w.heap.size,0,none⟩=some (.slice A3 t.es.length n3)/\w'.cell? ⟨w.heap.size,1,none⟩=some (.slice A4 t.ks.length n4)/\w'.cell? ⟨w.heap.size+1,0,none⟩=some (.int .i64 d.dc)/\w'.cell? ⟨w.heap.size+1,1,none⟩=some (.int .i64 d.n)/\w'.cell? ⟨w5.heap.size,0,none⟩=some (.slice A8 T.es.length n8)/\w'.cell? ⟨w5.heap.size,1,none⟩=some (.slice A9 T.ks.length n9))):=fun w' hb=>by
   have hB:Below w5.heap.size w5 w':=((Below.refl _ w5).alloc (Nat.le_refl _) _).trans (hb.mono (by omega))
   refine⟨hB,(hB.cell (p:=⟨w.heap.size,0,none⟩) hlt0).trans c0,(hB.cell (p:=⟨w.heap.size,1,none⟩) hlt0).trans c1,(hB.cell (p:=⟨w.heap.size+1,0,none⟩) hlt1).trans d0,(hB.cell (p:=⟨w.heap.size+1,1,none⟩) hlt1).trans d1,?_,?_⟩
   ·rw[hb.cell (p:=⟨w5.heap.size,0,none⟩) (by simp),World.cell?_alloc_new];rfl
   ·rw[hb.cell (p:=⟨w5.heap.size,1,none⟩) (by simp),World.cell?_alloc_new];rfl
  have hneA:w.heap.size+1+1≠w.heap.size:=by omega
  have hneB:w.heap.size≠w.heap.size+1+1:=by omega
  clear k0 k1 k2 z0 z1 z2
  go_upto_region 7 with (fail)
  go_region_held3 (fun w'=>w'.cell? ⟨w.heap.size,0,none⟩=some (.slice A3 t.es.length n3)/\w'.cell? ⟨w.heap.size,1,none⟩=some (.slice A4 t.ks.length n4)/\w'.cell? ⟨w.heap.size+1,0,none⟩=some (.int .i64 d.dc)/\w'.cell? ⟨w.heap.size+1,1,none⟩=some (.int .i64 d.n)/\w'.cell? ⟨w5.heap.size,0,none⟩=some (.slice A8 T.es.length n8)/\w'.cell? ⟨w5.heap.size,1,none⟩=some (.slice A9 T.ks.length n9))
   (first|go_keep|exact (HX.out _ hbx.out).2)
   (first|(go_at_call 173;go_loud ((refine (J7 t s d _ _ _ (HC.out _ ((hB5.alloc (by omega) _).drew)) hs hN HTR.out HDR.out hd).mono ?_);rintro e w6 ⟨v6,rfl,ho6,hb6⟩;obtain⟨A10,c10,hv6⟩:=ho6.shape;subst hv6;have HO6:=hid ho6;have hbx:Hid (Below (w5.heap.size+1) (w5.alloc (.cells #[.slice A8 T.es.length n8,.slice A9 T.ks.length n9] 25)) w6):=(((Below.refl (w5.heap.size+1) (w5.alloc (.cells #[.slice A8 T.es.length n8,.slice A9 T.ks.length n9] 25))).drew).trans (hb6.mono (by simp)));have hby:=hid (HX.out _ hbx.out).1;have hs6:w5.heap.size+1<=w6.heap.size:=(by have:=hbx.out.size;simpa using this);have HGx:=hid ((hby.out.block (w.heap.size+2) (by omega)).trans HG5.out);have k0:w6.cell? ⟨w.heap.size+2,0,none⟩=some (.slice none 0 0):=Qa (i:=0) HGx.out;have k1:w6.cell? ⟨w.heap.size+2,1,none⟩=some (.slice none 0 0):=Qa (i:=1) HGx.out;have k2:w6.cell? ⟨w.heap.size+2,2,none⟩=some (.slice none 0 0):=Qa (i:=2) HGx.out;have z0:=Qb (i:=0) HGx.out;have z1:=Qb (i:=1) HGx.out;have z2:=Qb (i:=2) HGx.out;have hlt6:w.heap.size+2<w6.heap.size:=(by omega);have hne6:w.heap.size+2≠w6.heap.size:=(by omega);clear ho6 hb6)))
  all_goals go_wp2_with fail
  obtain⟨r0,r1,r2,hK,hS⟩:=box3 HGx.out (.slice A8 T.es.length n8) (.slice A9 T.ks.length n9) (.slice A10 (seenC (kidT t s) d).length c10)
  have hBW:Below w.heap.size w (((w6.setCell ⟨w.heap.size+2,0,none⟩ (.slice A8 T.es.length n8)).setCell ⟨w.heap.size+2,1,none⟩ (.slice A9 T.ks.length n9)).setCell ⟨w.heap.size+2,2,none⟩ (.slice A10 (seenC (kidT t s) d).length c10)):=(((hB5.trans (hby.out.mono (by omega))).setCell (by simp) _).setCell (by simp) _).setCell (by simp) _
  clear k0 k1 k2 z0 z1 z2
  generalize (((w6.setCell ⟨w.heap.size+2,0,none⟩ (.slice A8 T.es.length n8)).setCell ⟨w.heap.size+2,1,none⟩ (.slice A9 T.ks.length n9)).setCell ⟨w.heap.size+2,2,none⟩ (.slice A10 (seenC (kidT t s) d).length c10))=W at *
  refine bodyPost_ret (v:=.tuple #[.agg #[.slice A8 T.es.length n8,.slice A9 T.ks.length n9,.slice A10 (seenC (kidT t s) d).length c10],.int .i64 0]) (by simp[results,Tryz.results140,go_sem,r0,r1,r2]) rfl ⟨_,_,_,by rw[HE.out],?_,?_,hBW⟩
  ·rw[HTT.out]
   exact Qp (fun b hb=>(hK b (by have:=hb.1;simp only[World.size_alloc]at this;omega)).trans (hby.out.block b hb.2)) (fun b hb=>⟨by have:=hb.1;simp only[World.size_alloc]at this;omega,by have:=hb.2;omega⟩) _ _ _ hrd5
  ·rw[HCC.out]
   refine (HO6.out.sla (by unfold Big;omega)).up (fun b hb=>hK b (by have:=hb.1;simp only[World.size_alloc,World.size_drew]at this;omega)) (fun b hb=>⟨by have:=hb.1;simp only[World.size_alloc,World.size_drew]at this;omega,by have:=hb.2.1;omega⟩) (fun _ _ _ h=>h)
 ·rw[fl]at hfi
  go_wp2_with fail
  refine (qJ3 t s _ _ w1 (HC.out _ hB1)).mono ?_
  rintro e w2 ⟨rfl,hb2⟩
  clear c0 c1 d0 d1 k0 k1 k2 z0 z1 z2
  have hb2':=hid (hb2)
  obtain⟨hB2,hs2,c0,c1,d0,d1,g6⟩:=HK1.out _ hb2'.out
  have HG2:=hid g6
  have k0:w2.cell? ⟨w.heap.size+2,0,none⟩=some (.slice none 0 0):=Qa (i:=0) g6
  have k1:w2.cell? ⟨w.heap.size+2,1,none⟩=some (.slice none 0 0):=Qa (i:=1) g6
  have k2:w2.cell? ⟨w.heap.size+2,2,none⟩=some (.slice none 0 0):=Qa (i:=2) g6
  have z0:=Qb (i:=0) g6
  have z1:=Qb (i:=1) g6
  have z2:=Qb (i:=2) g6
  clear g6
  clear hb2
  cases an:hasK t s
  ·have HE:Hid (addE t s d=4):=by unfold Hid addE;rw[hc,fl,an];rfl
   have HTT:Hid (addT t s d=.mk [] []):=by unfold Hid addT;rw[HE.out];rfl
   have HCC:Hid (addC t s d=[]):=by unfold Hid addC;rw[HE.out];rfl
   clear hc fl an
   go_wp2_with fail
   obtain⟨r0,r1,r2,hK,hS⟩:=box3 HG2.out (.slice none 0 0) (.slice none 0 0) (.slice none 0 0)
   have hBW:=((hB2.setCell (p:=⟨w.heap.size+2,0,none⟩) (by simp) (.slice none 0 0)).setCell (p:=⟨w.heap.size+2,1,none⟩) (by simp) (.slice none 0 0)).setCell (p:=⟨w.heap.size+2,2,none⟩) (by simp) (.slice none 0 0)
   refine bodyPost_ret (v:=.tuple #[.agg #[.slice none 0 0,.slice none 0 0,.slice none 0 0],.int .i64 4]) (by simp[results,Tryz.results140,go_sem,r0,r1,r2]) rfl ⟨_,_,_,by rw[HE.out],by rw[HTT.out];exact Qo _ _,by rw[HCC.out];exact SlA.nil,hBW⟩
  ·have HE:Hid (addE t s d=0):=by unfold Hid addE;rw[hc,fl,an];rfl
   have HTT:Hid (addT t s d=.mk [] [(s,oneE d)]):=by unfold Hid addT;rw[HE.out,if_pos rfl]
   have HCC:Hid (addC t s d=seenC (kidT t s) d):=by unfold Hid addC;rw[HE.out,if_pos rfl]
   clear hc fl an
   have hltn:w.heap.size+2<w2.heap.size:=by omega
   have hen:SlP ((w2.alloc (.cells #[.int .i64 d.dc,.int .i64 d.n,.string ByteArray.empty,.int .i64 0] 80)).alloc (.cells #[.string s] 9)) ((w2.alloc (.cells #[.int .i64 d.dc,.int .i64 d.n,.string ByteArray.empty,.int .i64 0] 80)).alloc (.cells #[.string s] 9)).heap.size 4 EnE (.slice (some ⟨w2.heap.size,0,none⟩) 1 1) [(⟨d.dc,d.n,ByteArray.empty,0⟩:En)]:=
    (SlP.one (x:=(⟨d.dc,d.n,ByteArray.empty,0⟩:En)) (zZ0 hd) rfl 80 rfl).imp ((Below.refl _ _).alloc (by rw[World.size_alloc];omega) _) (by rw[World.size_alloc,World.size_alloc];omega) fun _ _ _ h=>h
   have HEN:Hid ((oneE d).rd ((w2.alloc (.cells #[.int .i64 d.dc,.int .i64 d.n,.string ByteArray.empty,.int .i64 0] 80)).alloc (.cells #[.string s] 9)) ((w2.alloc (.cells #[.int .i64 d.dc,.int .i64 d.n,.string ByteArray.empty,.int .i64 0] 80)).alloc (.cells #[.string s] 9)).heap.size (.slice (some ⟨w2.heap.size,0,none⟩) 1 1) (.slice none 0 0)):=QE.2 ⟨hen,SlP.nil⟩
   clear hen
   go_wp2_with fail
   refine (YJ (oneE d) s _ _ _ _ HEN.out (SlP.oneB (E:=StE) (n:=w2.heap.size+1) (x:=s) (cs:=[.string s]) ⟨rfl,hs⟩ rfl _ (by simp) (by simp)) (by simp[oneE,Tr.sz,Tr.szL])).mono ?_
   rw[HWE.out,HWT.out]
   rintro e w5 ⟨v5,u5,rfl,hrd5,hb5⟩
   generalize (Tr.mk [] [(s,oneE d)]:Tr)=T at *
   obtain⟨A8,n8,A9,n9,rfl,rfl⟩:=Qj hrd5
   have hs5:=hb5.size
   simp only[World.size_alloc]at hs5
   clear c0 c1 d0 d1 k0 k1 k2 z0 z1 z2
   have hb5':=hid (hb2'.out.trans ((((Below.refl w2.heap.size w2).alloc (Nat.le_refl _) _).alloc (by rw[World.size_alloc];omega) _).trans (hb5.mono (show w2.heap.size<=_ by simp only[World.size_alloc];omega)) |>.mono hs2))
   obtain⟨hB5,hs5,c0,c1,d0,d1,g6⟩:=HK1.out _ hb5'.out
   have HG5:=hid g6
   have k0:w5.cell? ⟨w.heap.size+2,0,none⟩=some (.slice none 0 0):=Qa (i:=0) g6
   have k1:w5.cell? ⟨w.heap.size+2,1,none⟩=some (.slice none 0 0):=Qa (i:=1) g6
   have k2:w5.cell? ⟨w.heap.size+2,2,none⟩=some (.slice none 0 0):=Qa (i:=2) g6
   have z0:=Qb (i:=0) g6
   have z1:=Qb (i:=1) g6
   have z2:=Qb (i:=2) g6
   clear g6
   clear hb5
   have hlt2:w.heap.size+2<w5.heap.size:=by omega
   have hne2:w.heap.size+2≠w5.heap.size:=by omega
   have hlt1:w.heap.size+1<w5.heap.size:=by omega
   have hne1:w.heap.size+1≠w5.heap.size:=by omega
   have hlt0:w.heap.size<w5.heap.size:=by omega
   have hne0:w.heap.size≠w5.heap.size:=by omega
   have HX:Hid (∀ w',Below (w5.heap.size+1) (w5.alloc (.cells #[.slice A8 T.es.length n8,.slice A9 T.ks.length n9] 25)) w'->Below w5.heap.size w5 w'/\(w'.cell? ⟨w.heap.size,0,none⟩=some (.slice A3 t.es.length n3)/\w'.cell? ⟨w.heap.size,1,none⟩=some (.slice A4 t.ks.length n4)/\w'.cell? ⟨w.heap.size+1,0,none⟩=some (.int .i64 d.dc)/\w'.cell? ⟨w.heap.size+1,1,none⟩=some (.int .i64 d.n)/\w'.cell? ⟨w5.heap.size,0,none⟩=some (.slice A8 T.es.length n8)/\w'.cell? ⟨w5.heap.size,1,none⟩=some (.slice A9 T.ks.length n9))):=fun w' hb=>by
    have hB:Below w5.heap.size w5 w':=((Below.refl _ w5).alloc (Nat.le_refl _) _).trans (hb.mono (by omega))
    refine⟨hB,(hB.cell (p:=⟨w.heap.size,0,none⟩) hlt0).trans c0,(hB.cell (p:=⟨w.heap.size,1,none⟩) hlt0).trans c1,(hB.cell (p:=⟨w.heap.size+1,0,none⟩) hlt1).trans d0,(hB.cell (p:=⟨w.heap.size+1,1,none⟩) hlt1).trans d1,?_,?_⟩
    ·rw[hb.cell (p:=⟨w5.heap.size,0,none⟩) (by simp),World.cell?_alloc_new];rfl
    ·rw[hb.cell (p:=⟨w5.heap.size,1,none⟩) (by simp),World.cell?_alloc_new];rfl
   have hneA:w.heap.size+1+1≠w.heap.size:=by omega
   have hneB:w.heap.size≠w.heap.size+1+1:=by omega
   clear k0 k1 k2 z0 z1 z2
   go_upto_region 7 with (fail)
   go_region_held3 (fun w'=>w'.cell? ⟨w.heap.size,0,none⟩=some (.slice A3 t.es.length n3)/\w'.cell? ⟨w.heap.size,1,none⟩=some (.slice A4 t.ks.length n4)/\w'.cell? ⟨w.heap.size+1,0,none⟩=some (.int .i64 d.dc)/\w'.cell? ⟨w.heap.size+1,1,none⟩=some (.int .i64 d.n)/\w'.cell? ⟨w5.heap.size,0,none⟩=some (.slice A8 T.es.length n8)/\w'.cell? ⟨w5.heap.size,1,none⟩=some (.slice A9 T.ks.length n9))
    (first|go_keep|exact (HX.out _ hbx.out).2)
    (first|(go_at_call 173;go_loud ((refine (J7 t s d _ _ _ (HC.out _ ((hB5.alloc (by omega) _).drew)) hs hN HTR.out HDR.out hd).mono ?_);rintro e w6 ⟨v6,rfl,ho6,hb6⟩;obtain⟨A10,c10,hv6⟩:=ho6.shape;subst hv6;have HO6:=hid ho6;have hbx:Hid (Below (w5.heap.size+1) (w5.alloc (.cells #[.slice A8 T.es.length n8,.slice A9 T.ks.length n9] 25)) w6):=(((Below.refl (w5.heap.size+1) (w5.alloc (.cells #[.slice A8 T.es.length n8,.slice A9 T.ks.length n9] 25))).drew).trans (hb6.mono (by simp)));have hby:=hid (HX.out _ hbx.out).1;have hs6:w5.heap.size+1<=w6.heap.size:=(by have:=hbx.out.size;simpa using this);have HGx:=hid ((hby.out.block (w.heap.size+2) (by omega)).trans HG5.out);have k0:w6.cell? ⟨w.heap.size+2,0,none⟩=some (.slice none 0 0):=Qa (i:=0) HGx.out;have k1:w6.cell? ⟨w.heap.size+2,1,none⟩=some (.slice none 0 0):=Qa (i:=1) HGx.out;have k2:w6.cell? ⟨w.heap.size+2,2,none⟩=some (.slice none 0 0):=Qa (i:=2) HGx.out;have z0:=Qb (i:=0) HGx.out;have z1:=Qb (i:=1) HGx.out;have z2:=Qb (i:=2) HGx.out;have hlt6:w.heap.size+2<w6.heap.size:=(by omega);have hne6:w.heap.size+2≠w6.heap.size:=(by omega);clear ho6 hb6)))
   all_goals go_wp2_with fail
   obtain⟨r0,r1,r2,hK,hS⟩:=box3 HGx.out (.slice A8 T.es.length n8) (.slice A9 T.ks.length n9) (.slice A10 (seenC (kidT t s) d).length c10)
   have hBW:Below w.heap.size w (((w6.setCell ⟨w.heap.size+2,0,none⟩ (.slice A8 T.es.length n8)).setCell ⟨w.heap.size+2,1,none⟩ (.slice A9 T.ks.length n9)).setCell ⟨w.heap.size+2,2,none⟩ (.slice A10 (seenC (kidT t s) d).length c10)):=(((hB5.trans (hby.out.mono (by omega))).setCell (by simp) _).setCell (by simp) _).setCell (by simp) _
   clear k0 k1 k2 z0 z1 z2
   generalize (((w6.setCell ⟨w.heap.size+2,0,none⟩ (.slice A8 T.es.length n8)).setCell ⟨w.heap.size+2,1,none⟩ (.slice A9 T.ks.length n9)).setCell ⟨w.heap.size+2,2,none⟩ (.slice A10 (seenC (kidT t s) d).length c10))=W at *
   refine bodyPost_ret (v:=.tuple #[.agg #[.slice A8 T.es.length n8,.slice A9 T.ks.length n9,.slice A10 (seenC (kidT t s) d).length c10],.int .i64 0]) (by simp[results,Tryz.results140,go_sem,r0,r1,r2]) rfl ⟨_,_,_,by rw[HE.out],?_,?_,hBW⟩
   ·rw[HTT.out]
    exact Qp (fun b hb=>(hK b (by have:=hb.1;simp only[World.size_alloc]at this;omega)).trans (hby.out.block b hb.2)) (fun b hb=>⟨by have:=hb.1;simp only[World.size_alloc]at this;omega,by have:=hb.2;omega⟩) _ _ _ hrd5
   ·rw[HCC.out]
    refine (HO6.out.sla (by unfold Big;omega)).up (fun b hb=>hK b (by have:=hb.1;simp only[World.size_alloc,World.size_drew]at this;omega)) (fun b hb=>⟨by have:=hb.1;simp only[World.size_alloc,World.size_drew]at this;omega,by have:=hb.2.1;omega⟩) (fun _ _ _ h=>h)
def incE (t:Tr)(n:Int)(d:Dt):Int:=if chkT t d=false∨n < -1099511627776∨1099511627776<n then 1 else if 24<=t.es.length then 4 else 0
def incT (t:Tr)(n:Int)(d:Dt):Tr:=if incE t n d=0 then .mk [⟨d.dc,d.n,ByteArray.empty,n⟩] [] else .mk [] []
def incC (t:Tr)(n:Int)(d:Dt):List Sp:=if incE t n d=0 then ctxOf [d] else []
theorem zQo (t:Tr)(n:Int)(d:Dt)(ve vk:Value)(w:World)(h:t.rd w w.heap.size ve vk)(hN:t.sz<=90000)(hn:I64 n)(hd:d.Ok) :
  Calls Tryz.prog 142 #[.agg #[ve,vk],.int .i64 n,.agg #[.int .i64 d.dc,.int .i64 d.n]] w (RetCE w (incT t n d) (incC t n d) (incE t n d)):=by
 have HC:Hid (∀ w',Below w.heap.size w w'->t.rd w' w'.heap.size ve vk):=fun w' hb=>Qi hb hb.size _ _ _ h
 have hfit:=VV _ _ _ h
 have hel:t.es.length<=140737488355328:=by obtain⟨es,ks⟩:=t;exact hfit.1
 obtain⟨A3,n3,A4,n4,rfl,rfl⟩:=Qk h
 have hb0:=(((Below.refl w.heap.size w).alloc (Nat.le_refl _) (.cells #[.slice A3 t.es.length n3,.slice A4 t.ks.length n4] 25)).alloc (by simp) (.cells #[.int .i64 d.dc,.int .i64 d.n] 78)).alloc (by simp;omega) (.cells #[.slice none 0 0,.slice none 0 0,.slice none 0 0] 29)
 clear h hfit
 go_enter Tryz.func142,Tryz.ntmps142
 go_wp2_with fail
 refine (Zs t d _ _ _ (HC.out _ hb0) hN).mono ?_
 rintro e w1 ⟨rfl,hb1⟩
 have hs1:=hb1.size
 simp only[World.size_alloc]at hs1
 have hB1:Below w.heap.size w w1:=hb0.trans (hb1.mono (by simp;omega))
 have c0:w1.cell? ⟨w.heap.size,0,none⟩=some (.slice A3 t.es.length n3):=by
  rw[hb1.cell (p:=⟨w.heap.size,0,none⟩) (by simp;omega)]
  rw[World.cell?_alloc_lt _ _ _ (by simp;omega),World.cell?_alloc_lt _ _ _ (by simp)];simp
 have d0:w1.cell? ⟨w.heap.size+1,0,none⟩=some (.int .i64 d.dc):=by rw[hb1.cell (p:=⟨w.heap.size+1,0,none⟩) (by simp),World.cell?_alloc_lt _ _ _ (by simp)];simp
 have d1:w1.cell? ⟨w.heap.size+1,1,none⟩=some (.int .i64 d.n):=by rw[hb1.cell (p:=⟨w.heap.size+1,1,none⟩) (by simp),World.cell?_alloc_lt _ _ _ (by simp)];simp
 have hg:w1.heap[w.heap.size+2]?=some (.cells #[.slice none 0 0,.slice none 0 0,.slice none 0 0] 29 (0,0)):=(hb1.block (w.heap.size+2) (by simp)).trans (Qd (by simp))
 have HG:=hid hg
 have k0:w1.cell? ⟨w.heap.size+2,0,none⟩=some (.slice none 0 0):=Qa (i:=0) hg
 have k1:w1.cell? ⟨w.heap.size+2,1,none⟩=some (.slice none 0 0):=Qa (i:=1) hg
 have k2:w1.cell? ⟨w.heap.size+2,2,none⟩=some (.slice none 0 0):=Qa (i:=2) hg
 have z0:=Qb (i:=0) hg
 have z1:=Qb (i:=1) hg
 have z2:=Qb (i:=2) hg
 clear hg hb1
 cases hc:chkT t d
 ·have HE:Hid (incE t n d=1):=by unfold Hid incE;rw[if_pos (.inl hc)]
  rw[show chkI t d=1 by unfold chkI;rw[hc];rfl]
  clear hc
  go_wp2_with fail
  obtain⟨r0,r1,r2,hK,hS⟩:=box3 HG.out (.slice none 0 0) (.slice none 0 0) (.slice none 0 0)
  have hBW:=((hB1.setCell (p:=⟨w.heap.size+2,0,none⟩) (by simp) (.slice none 0 0)).setCell (p:=⟨w.heap.size+2,1,none⟩) (by simp) (.slice none 0 0)).setCell (p:=⟨w.heap.size+2,2,none⟩) (by simp) (.slice none 0 0)
  refine bodyPost_ret (v:=.tuple #[.agg #[.slice none 0 0,.slice none 0 0,.slice none 0 0],.int .i64 1]) (by simp[results,Tryz.results142,go_sem,r0,r1,r2]) rfl ⟨_,_,_,by rw[HE.out],by rw[incT,HE.out];exact Qo _ _,by rw[incC,HE.out];exact SlA.nil,hBW⟩
 rw[show chkI t d=0 by unfold chkI;rw[hc];rfl]
 by_cases h1:n < -1099511627776
 ·have HE:Hid (incE t n d=1):=by unfold Hid incE;rw[if_pos (.inr (.inl h1))]
  clear hc
  go_wp2_with fail
  obtain⟨r0,r1,r2,hK,hS⟩:=box3 HG.out (.slice none 0 0) (.slice none 0 0) (.slice none 0 0)
  have hBW:=((hB1.setCell (p:=⟨w.heap.size+2,0,none⟩) (by simp) (.slice none 0 0)).setCell (p:=⟨w.heap.size+2,1,none⟩) (by simp) (.slice none 0 0)).setCell (p:=⟨w.heap.size+2,2,none⟩) (by simp) (.slice none 0 0)
  refine bodyPost_ret (v:=.tuple #[.agg #[.slice none 0 0,.slice none 0 0,.slice none 0 0],.int .i64 1]) (by simp[results,Tryz.results142,go_sem,r0,r1,r2]) rfl ⟨_,_,_,by rw[HE.out],by rw[incT,HE.out];exact Qo _ _,by rw[incC,HE.out];exact SlA.nil,hBW⟩
 by_cases h2:1099511627776<n
 ·have HE:Hid (incE t n d=1):=by unfold Hid incE;rw[if_pos (.inr (.inr h2))]
  clear hc
  go_wp2_with fail
  obtain⟨r0,r1,r2,hK,hS⟩:=box3 HG.out (.slice none 0 0) (.slice none 0 0) (.slice none 0 0)
  have hBW:=((hB1.setCell (p:=⟨w.heap.size+2,0,none⟩) (by simp) (.slice none 0 0)).setCell (p:=⟨w.heap.size+2,1,none⟩) (by simp) (.slice none 0 0)).setCell (p:=⟨w.heap.size+2,2,none⟩) (by simp) (.slice none 0 0)
  refine bodyPost_ret (v:=.tuple #[.agg #[.slice none 0 0,.slice none 0 0,.slice none 0 0],.int .i64 1]) (by simp[results,Tryz.results142,go_sem,r0,r1,r2]) rfl ⟨_,_,_,by rw[HE.out],by rw[incT,HE.out];exact Qo _ _,by rw[incC,HE.out];exact SlA.nil,hBW⟩
 have hno:¬(chkT t d=false∨n < -1099511627776∨1099511627776<n):=by rw[hc];simp;omega
 by_cases h3:24<=t.es.length
 ·have HE:Hid (incE t n d=4):=by unfold Hid incE;rw[if_neg hno,if_pos h3]
  clear hc hno
  have h3':decide (24<=t.es.length)=true:=by simpa using h3
  go_wp2_with fail
  obtain⟨r0,r1,r2,hK,hS⟩:=box3 HG.out (.slice none 0 0) (.slice none 0 0) (.slice none 0 0)
  have hBW:=((hB1.setCell (p:=⟨w.heap.size+2,0,none⟩) (by simp) (.slice none 0 0)).setCell (p:=⟨w.heap.size+2,1,none⟩) (by simp) (.slice none 0 0)).setCell (p:=⟨w.heap.size+2,2,none⟩) (by simp) (.slice none 0 0)
  refine bodyPost_ret (v:=.tuple #[.agg #[.slice none 0 0,.slice none 0 0,.slice none 0 0],.int .i64 4]) (by simp[results,Tryz.results142,go_sem,r0,r1,r2]) rfl ⟨_,_,_,by rw[HE.out],by rw[incT,HE.out];exact Qo _ _,by rw[incC,HE.out];exact SlA.nil,hBW⟩
 ·have HE:Hid (incE t n d=0):=by unfold Hid incE;rw[if_neg hno,if_neg h3]
  have HDR:=hid (Zt hc)
  clear hc hno
  have h3':decide (24<=t.es.length)=false:=by simpa using h3
  go_wp2_with fail
  refine (Jd [d] _ _ (SlP.oneB (E:=DtE) (x:=d) (cs:=[.int .i64 d.dc,.int .i64 d.n]) ⟨rfl,hd⟩ rfl _ rfl (by simp)) (fun x hx=>by simp at hx;subst hx;exact HDR.out) (by simp)).mono ?_
  rintro e w2 ⟨v2,rfl,ho2,hb2⟩
  obtain⟨A2,c2,rfl⟩:=ho2.shape
  have hs2:=hb2.size
  simp only[World.size_alloc]at hs2
  have hb2':Below w1.heap.size w1 w2:=((Below.refl _ w1).alloc (Nat.le_refl _) _).trans (hb2.mono (by simp))
  have hB2:Below w.heap.size w w2:=hB1.trans (hb2'.mono (by omega))
  have HG2:=hid ((hb2'.block (w.heap.size+2) (by omega)).trans HG.out)
  have e0:w2.cell? ⟨w.heap.size+1,0,none⟩=some (.int .i64 d.dc):=(hb2'.cell (p:=⟨w.heap.size+1,0,none⟩) (by show w.heap.size+1<_;omega)).trans d0
  have e1:w2.cell? ⟨w.heap.size+1,1,none⟩=some (.int .i64 d.n):=(hb2'.cell (p:=⟨w.heap.size+1,1,none⟩) (by show w.heap.size+1<_;omega)).trans d1
  clear k0 k1 k2 z0 z1 z2 c0 d0 d1
  have k0:w2.cell? ⟨w.heap.size+2,0,none⟩=some (.slice none 0 0):=Qa (i:=0) HG2.out
  have k1:w2.cell? ⟨w.heap.size+2,1,none⟩=some (.slice none 0 0):=Qa (i:=1) HG2.out
  have k2:w2.cell? ⟨w.heap.size+2,2,none⟩=some (.slice none 0 0):=Qa (i:=2) HG2.out
  have z0:=Qb (i:=0) HG2.out
  have z1:=Qb (i:=1) HG2.out
  have z2:=Qb (i:=2) HG2.out
  have hlt2:w.heap.size+2<w2.heap.size:=by omega
  have hne2:w.heap.size+2≠w2.heap.size:=by omega
  have HO2:=hid ho2
  clear ho2
  go_wp2_with fail
  obtain⟨r0,r1,r2,hK,hS⟩:=box3 HG2.out (.slice (some ⟨w2.heap.size,0,none⟩) 1 1) (.slice none 0 0) (.slice A2 (ctxOf [d]).length c2)
  have hBW:Below w.heap.size w (((w2.setCell ⟨w.heap.size+2,0,none⟩ (.slice (some ⟨w2.heap.size,0,none⟩) 1 1)).setCell ⟨w.heap.size+2,1,none⟩ (.slice none 0 0)).setCell ⟨w.heap.size+2,2,none⟩ (.slice A2 (ctxOf [d]).length c2)):=((hB2.setCell (by simp) _).setCell (by simp) _).setCell (by simp) _
  clear k0 k1 k2 z0 z1 z2 e0 e1
  generalize (((w2.setCell ⟨w.heap.size+2,0,none⟩ (.slice (some ⟨w2.heap.size,0,none⟩) 1 1)).setCell ⟨w.heap.size+2,1,none⟩ (.slice none 0 0)).setCell ⟨w.heap.size+2,2,none⟩ (.slice A2 (ctxOf [d]).length c2))=W at *
  have q0:(W.alloc (.cells #[.int .i64 d.dc,.int .i64 d.n,.string ⟨#[]⟩,.int .i64 n] 80)).cell? ⟨w.heap.size+1+1,0,none⟩=some (.slice (some ⟨w2.heap.size,0,none⟩) 1 1):=by rw[World.cell?_alloc_lt _ _ _ (by show w.heap.size+2<_;omega)];exact r0
  have q1:(W.alloc (.cells #[.int .i64 d.dc,.int .i64 d.n,.string ⟨#[]⟩,.int .i64 n] 80)).cell? ⟨w.heap.size+1+1,1,none⟩=some (.slice none 0 0):=by rw[World.cell?_alloc_lt _ _ _ (by show w.heap.size+2<_;omega)];exact r1
  have q2:(W.alloc (.cells #[.int .i64 d.dc,.int .i64 d.n,.string ⟨#[]⟩,.int .i64 n] 80)).cell? ⟨w.heap.size+1+1,2,none⟩=some (.slice A2 (ctxOf [d]).length c2):=by rw[World.cell?_alloc_lt _ _ _ (by show w.heap.size+2<_;omega)];exact r2
  refine bodyPost_ret (v:=.tuple #[.agg #[.slice (some ⟨w2.heap.size,0,none⟩) 1 1,.slice none 0 0,.slice A2 (ctxOf [d]).length c2],.int .i64 0]) (by simp[results,Tryz.results142,go_sem,q0,q1,q2]) rfl ⟨_,_,_,by rw[HE.out],?_,?_,hBW.alloc (by omega) _⟩
  ·rw[incT,HE.out,if_pos rfl,ZC]
   refine⟨?_,SlA.nil⟩
   exact SlA.one (x:=(⟨d.dc,d.n,ByteArray.empty,n⟩:En)) (cs:=[.int .i64 d.dc,.int .i64 d.n,.string ByteArray.empty,.int .i64 n]) (e:=80) (z:=(0,0)) ⟨rfl,En.Ok.mk' hd hn⟩ rfl (Qd hS.symm) ⟨by omega,by rw[World.size_alloc];omega⟩
  ·rw[incC,HE.out,if_pos rfl]
   refine (HO2.out.sla (by have:=Zn [d] 4;unfold ctxOf Big;simp at this;omega)).up (fun b hb=>(Qg (by have:=hb.2.1;omega)).trans (hK b (by have:=hb.1;simp only[World.size_alloc]at this;omega))) (fun b hb=>⟨by have:=hb.1;simp only[World.size_alloc]at this;omega,by rw[World.size_alloc];have:=hb.2.1;omega⟩) (fun _ _ _ h=>h)
theorem Xh {l:List Dt}(h:∀ d∈l,d.right=true):SpsOk (ctxOf l):=fun s hs=>by
 have ha:=Qr h
 have hd:=XH (fun i=>ofL (numsL l i)) 4 s hs
 unfold ctxOf Xb at hs
 obtain⟨i,_,hs⟩:=List.mem_flatMap.1 hs
 obtain⟨r,hr,rfl⟩:=List.mem_map.1 hs
 have:=J6 _ none (ZU (J5 h i)).1 r hr
 unfold runOk at this
 exact⟨by show 0<=r.1;omega,by show r.1<=_;omega,by show 0<=r.2;omega,by show r.2<=_;omega⟩
end Go.Proofs.YtbcoelggdikipaaGreat
