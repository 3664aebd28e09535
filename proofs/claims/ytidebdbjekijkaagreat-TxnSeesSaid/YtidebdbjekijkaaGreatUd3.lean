/- What the laws need. No condition but those that each lemma states. -/
import Derived.Deep.LoopGhost
import Derived.Test.YtidebdbjekijkaaGreatUd1
import Derived.Test.YtidebdbjekijkaaGreatUd2
set_option maxRecDepth 100000
set_option maxHeartbeats 8000000
set_option linter.unusedSimpArgs false
namespace Go.Proofs.YtidebdbjekijkaaGreat
open Go.RowKit
def dcsOk:Int->List Sp->Bool
 |_,[]=>true
 |last,s :: c=>decide (last<=s.dc)&&decide (s.dc<4)&&dcsOk s.dc c
def Qm (c:List Sp):Bool:=dcsOk 0 c&&(List.range 4).all fun (dc:Nat)=>runsR none (partL c dc)
def RetA (w:World)(c:List Sp)(e:Ending)(w':World):Prop:=
 ∃ vs:Nat->Value,e=.returned (.tuple #[.agg #[vs 0,vs 1,vs 2,vs 3],.bool (Qm c)])/\(∀ i,i<4->SlA w' (fun b=>w.heap.size<=b/\b<w'.heap.size) 2 RuE (vs i) (if Qm c then partL c i else []))/\Below w.heap.size w w'
def ApA (c:List Sp)(w:World)(k:Nat)(wr:World):Prop:=
 ∃ vs:Nat->Value,Rows4 wr (w.heap.size+2) (w.heap.size+1) 150 181 2 RuE vs (fun i=>partL (c.take k) i) /\
  wr.heap[w.heap.size]?=some (.cells #[.slice none 0 0,.slice none 0 0,.slice none 0 0,.slice none 0 0] 150 (0,0))/\Below w.heap.size w wr
theorem XM (c:List Sp)(vc:Value)(w:World)(h:SlP w w.heap.size 3 SpE vc c)(hN:c.length<=900000) :
  Calls Tryz.prog 152 #[vc] w (RetA w c):=by
 obtain⟨A,n,rfl,b1,b2,b3⟩:=h
 unfold Big at b2
 go_enter Tryz.func152,Tryz.ntmps152
 go_wp2_with fail
 go_loopw [5,12] (fun l i wr=>∃ (k:Nat) (L:Int),k<=c.length/\i=.int .i64 k/\l=.int .i64 L/\0<=L/\L<=4/\Hid (dcsOk L (c.drop k)=dcsOk 0 c)/\ApA c w k wr) (fun _ i _=>c.length-(intOf i).toNat)
 case atStart=>
  refine⟨0,0,Nat.zero_le _,rfl,rfl,by omega,by omega,rfl,fun _=>.slice none 0 0,Rows4.start (Qc (by simp)) (by omega),?_,((Below.refl _ w).alloc (Nat.le_refl _) _).alloc (by simp) _⟩
  rw[Qg (by simp)];exact Qc rfl
 case round=>
  obtain⟨k,L,hk,rfl,rfl,hL0,hL1,hrel,vs,hr4,hg2,hb⟩:=hrel
  have hsz:=hb.size
  have hsz2:w.heap.size+1<wr.heap.size:=(Array.getElem?_eq_some_iff.1 hr4.arr).1
  have hsz3:w.heap.size<wr.heap.size:=by omega
  have hsz4:w.heap.size≠wr.heap.size:=by omega
  have hsz5:w.heap.size+1≠wr.heap.size:=by omega
  by_cases hlt:k<c.length
  ·obtain⟨⟨dc,fr,hi⟩,hx⟩:∃ x,c[k]?=some x:=⟨_,List.getElem?_eq_getElem hlt⟩
   obtain⟨b,off,rfl,hbB,hc⟩:=b3 (by rintro rfl;simp at hlt)
   obtain⟨cs,⟨rfl,hok⟩,_,hu⟩:=hc k _ hx
   have e0:wr.cell? ⟨b,off+k*3,none⟩=some (.int .i64 dc):=(hb.cell hbB).trans (hu 0 _ rfl)
   have e1:wr.cell? ⟨b,off+k*3+1,none⟩=some (.int .i64 fr):=(hb.cell hbB).trans (hu 1 _ rfl)
   have e2:wr.cell? ⟨b,off+k*3+2,none⟩=some (.int .i64 hi):=(hb.cell hbB).trans (hu 2 _ rfl)
   have HD:Hid (dcsOk 0 c=(decide (L<=dc)&&decide (dc<4)&&dcsOk dc (c.drop (k+1)))):=by
    have:=hrel.out
    rw[QM hx]at this
    exact this.symm
   have HG:=hid hg2
   have HR4:=hid hr4
   have HP:∀ (d:Nat),(dc=(d:Int))->Hid ((fun i:Nat=>partL (c.take (k+1)) i)=fun i=>if i=d then partL (c.take k) d++[(fr,hi)] else partL (c.take k) i):=fun d hd=>by
    unfold Hid;funext i
    rw[Ve hx]
    by_cases e:i=d
    ·subst e;rw[if_pos rfl,if_pos (by exact hd)]
    ·rw[if_neg e,if_neg (by show ¬dc=(i:Int);omega),List.append_nil]
   have hpl:=QO (c.take k)
   clear hu hx hc b3 hrel hg2 hr4
   by_cases h1:dc<L∨4<=dc
   ·have HF:Hid (Qm c=false):=by
     unfold Hid Qm
     rw[HD.out]
     rcases h1 with h1|h1
     ·rw[show decide (L<=dc)=false by simp;omega];simp
     ·rw[show decide (dc<4)=false by simp;omega];simp
    have z0:=Qb (i:=0) HG.out
    have z1:=Qb (i:=1) HG.out
    have z2:=Qb (i:=2) HG.out
    have z3:=Qb (i:=3) HG.out
    have c0:wr.cell? ⟨w.heap.size,0,none⟩=some (.slice none 0 0):=Qa (i:=0) HG.out
    have c1:wr.cell? ⟨w.heap.size,1,none⟩=some (.slice none 0 0):=Qa (i:=1) HG.out
    have c2:wr.cell? ⟨w.heap.size,2,none⟩=some (.slice none 0 0):=Qa (i:=2) HG.out
    have c3:wr.cell? ⟨w.heap.size,3,none⟩=some (.slice none 0 0):=Qa (i:=3) HG.out
    have hz:=HG
    have hBz:=hb
    by_cases h2:dc<L
    ·go_wp2_with fail
     have hW0:=Qe (i:=3) (Qe (i:=2) (Qe (i:=1) (Qe (i:=0) hz.out (.slice none 0 0)) (.slice none 0 0)) (.slice none 0 0)) (.slice none 0 0)
     have hBW:Below w.heap.size w ((((((wr).setCell ⟨w.heap.size,0,none⟩ (.slice none 0 0)).setCell ⟨w.heap.size,1,none⟩ (.slice none 0 0)).setCell ⟨w.heap.size,2,none⟩ (.slice none 0 0)).setCell ⟨w.heap.size,3,none⟩ (.slice none 0 0))):=(((hBz.setCell (Nat.le_refl _) _).setCell (Nat.le_refl _) _).setCell (Nat.le_refl _) _).setCell (Nat.le_refl _) _
     clear c0 c1 c2 c3 z0 z1 z2 z3
     generalize (((((wr).setCell ⟨w.heap.size,0,none⟩ (.slice none 0 0)).setCell ⟨w.heap.size,1,none⟩ (.slice none 0 0)).setCell ⟨w.heap.size,2,none⟩ (.slice none 0 0)).setCell ⟨w.heap.size,3,none⟩ (.slice none 0 0))=W at *
     have hWs:w.heap.size<W.heap.size:=(Array.getElem?_eq_some_iff.1 hW0).1
     have r0:(W.alloc (.cells #[.int .i64 dc,.int .i64 fr,.int .i64 hi] 45)).cell? ⟨w.heap.size,0,none⟩=some (.slice none 0 0):=(Qa (i:=0) (((Qg hWs).trans) hW0)).trans (by simp)
     have r1:(W.alloc (.cells #[.int .i64 dc,.int .i64 fr,.int .i64 hi] 45)).cell? ⟨w.heap.size,1,none⟩=some (.slice none 0 0):=(Qa (i:=1) (((Qg hWs).trans) hW0)).trans (by simp)
     have r2:(W.alloc (.cells #[.int .i64 dc,.int .i64 fr,.int .i64 hi] 45)).cell? ⟨w.heap.size,2,none⟩=some (.slice none 0 0):=(Qa (i:=2) (((Qg hWs).trans) hW0)).trans (by simp)
     have r3:(W.alloc (.cells #[.int .i64 dc,.int .i64 fr,.int .i64 hi] 45)).cell? ⟨w.heap.size,3,none⟩=some (.slice none 0 0):=(Qa (i:=3) (((Qg hWs).trans) hW0)).trans (by simp)
     have hBX:Below w.heap.size w (W.alloc (.cells #[.int .i64 dc,.int .i64 fr,.int .i64 hi] 45)):=(fun h=>h.alloc (by omega) _) hBW
     refine bodyPost_ret (v:=.tuple #[.agg #[.slice none 0 0,.slice none 0 0,.slice none 0 0,.slice none 0 0],.bool false]) (by simp[results,Tryz.results152,go_sem,r0,r1,r2,r3]) rfl ⟨fun _=>.slice none 0 0,by rw[HF.out],fun i _=>by rw[HF.out];exact⟨none,0,rfl,Nat.le_refl _,by simp,fun h=>absurd rfl h⟩,hBX⟩
    ·have h4:4<=dc:=by omega
     go_wp2_with fail
     have hW0:=Qe (i:=3) (Qe (i:=2) (Qe (i:=1) (Qe (i:=0) hz.out (.slice none 0 0)) (.slice none 0 0)) (.slice none 0 0)) (.slice none 0 0)
     have hBW:Below w.heap.size w ((((((wr).setCell ⟨w.heap.size,0,none⟩ (.slice none 0 0)).setCell ⟨w.heap.size,1,none⟩ (.slice none 0 0)).setCell ⟨w.heap.size,2,none⟩ (.slice none 0 0)).setCell ⟨w.heap.size,3,none⟩ (.slice none 0 0))):=(((hBz.setCell (Nat.le_refl _) _).setCell (Nat.le_refl _) _).setCell (Nat.le_refl _) _).setCell (Nat.le_refl _) _
     clear c0 c1 c2 c3 z0 z1 z2 z3
     generalize (((((wr).setCell ⟨w.heap.size,0,none⟩ (.slice none 0 0)).setCell ⟨w.heap.size,1,none⟩ (.slice none 0 0)).setCell ⟨w.heap.size,2,none⟩ (.slice none 0 0)).setCell ⟨w.heap.size,3,none⟩ (.slice none 0 0))=W at *
     have hWs:w.heap.size<W.heap.size:=(Array.getElem?_eq_some_iff.1 hW0).1
     have r0:(W.alloc (.cells #[.int .i64 dc,.int .i64 fr,.int .i64 hi] 45)).cell? ⟨w.heap.size,0,none⟩=some (.slice none 0 0):=(Qa (i:=0) (((Qg hWs).trans) hW0)).trans (by simp)
     have r1:(W.alloc (.cells #[.int .i64 dc,.int .i64 fr,.int .i64 hi] 45)).cell? ⟨w.heap.size,1,none⟩=some (.slice none 0 0):=(Qa (i:=1) (((Qg hWs).trans) hW0)).trans (by simp)
     have r2:(W.alloc (.cells #[.int .i64 dc,.int .i64 fr,.int .i64 hi] 45)).cell? ⟨w.heap.size,2,none⟩=some (.slice none 0 0):=(Qa (i:=2) (((Qg hWs).trans) hW0)).trans (by simp)
     have r3:(W.alloc (.cells #[.int .i64 dc,.int .i64 fr,.int .i64 hi] 45)).cell? ⟨w.heap.size,3,none⟩=some (.slice none 0 0):=(Qa (i:=3) (((Qg hWs).trans) hW0)).trans (by simp)
     have hBX:Below w.heap.size w (W.alloc (.cells #[.int .i64 dc,.int .i64 fr,.int .i64 hi] 45)):=(fun h=>h.alloc (by omega) _) hBW
     refine bodyPost_ret (v:=.tuple #[.agg #[.slice none 0 0,.slice none 0 0,.slice none 0 0,.slice none 0 0],.bool false]) (by simp[results,Tryz.results152,go_sem,r0,r1,r2,r3]) rfl ⟨fun _=>.slice none 0 0,by rw[HF.out],fun i _=>by rw[HF.out];exact⟨none,0,rfl,Nat.le_refl _,by simp,fun h=>absurd rfl h⟩,hBX⟩
   ·obtain⟨d,rfl⟩:∃ d:Nat,dc=(d:Int):=⟨dc.toNat,by omega⟩
    have hd4:d<4:=by omega
    have hdi:(d:Int)<4:=by omega
    have hdL:L<=(d:Int):=by omega
    have HDR:Hid (dcsOk (d:Int) (c.drop (k+1))=dcsOk 0 c):=by
     unfold Hid;rw[HD.out,show decide (L<=(d:Int))=true by simp;omega,show decide ((d:Int)<4)=true by simp;omega];rfl
    have HPD:=HP d rfl
    have HL:Hid ((partL (c.take k) d).length + [(fr,hi)].length<=Few):=by have:=hpl d;rw[List.length_take]at this;unfold Hid Few;simp;omega
    have HRE:Hid (RuE (fr,hi) [.int .i64 fr,.int .i64 hi]):=⟨rfl,hok.fr,hok.hi⟩
    have hbp:wr.cell? ⟨w.heap.size+1,d,none⟩=some (vs d):=HR4.out.at hd4
    have HOWN:Hid (∀ W,Below wr.heap.size wr W->OwnP W (w.heap.size+2) 181 2 RuE (vs d) (partL (c.take k) d)):=fun W hW=>(HR4.out.own d hd4).grow hW
    have HLT:=hid ((HR4.out.own d hd4).lt)
    have HGB:Hid (∀ W3 w4,Below wr.heap.size wr W3->W3.grownBy w4 (vs d).ownBlock->∀ b,b<w.heap.size+2->w4.heap[b]?=wr.heap[b]?):=fun W3 w4 h3 h4 b hb=>
     (h4.block b (by have:=h3.size;omega) (fun e=>by have:=HLT.out b e.symm;omega)).trans (h3.block b (by omega))
    clear HP hpl h1 hok HD
    go_wp2_with fail
    refine Z1 (S:=fun w'=>w'.cell? ⟨wr.heap.size,0,none⟩=some (.int .i64 (d:Int))/\w'.cell? ⟨wr.heap.size,1,none⟩=some (.int .i64 fr)/\w'.cell? ⟨wr.heap.size,2,none⟩=some (.int .i64 hi)/\w'.cell? ⟨w.heap.size+1,d,none⟩=some (vs d)) 14 (by kernel_rfl) (by kernel_rfl) ?_
    simp only[List.take_succ_cons,List.take_zero,List.drop_succ_cons,List.drop_zero]
    have hHeld:(fun w':World=>w'.cell? ⟨wr.heap.size,0,none⟩=some (.int .i64 (d:Int))/\w'.cell? ⟨wr.heap.size,1,none⟩=some (.int .i64 fr)/\w'.cell? ⟨wr.heap.size,2,none⟩=some (.int .i64 hi)/\w'.cell? ⟨w.heap.size+1,d,none⟩=some (vs d)) (wr.alloc (.cells #[.int .i64 (d:Int),.int .i64 fr,.int .i64 hi] 45)).drew:=by go_keep
    refine wpAnyH_take (i:=0) (oi:=_) (v:=?v0) rfl (by kernel_rfl) (by kernel_rfl) (by kernel_rfl) (fun _ _ _ h=>h) (Or.inl ⟨by rfl,?h0⟩) (by assumption) ?_
    case h0=>(intro w hSw;(try dsimp only at hSw);go_simp;(try with_reducible rfl))
    simp only[Act.put,List.setIfInBounds_toArray]
    refine wpAnyH_take (i:=1) (oi:=_) (v:=?v1) rfl (by kernel_rfl) (by kernel_rfl) (by kernel_rfl) (fun _ _ _ h=>h) (Or.inl ⟨by rfl,?h1⟩) (by assumption) ?_
    case h1=>(intro w hSw;(try dsimp only at hSw);go_simp;(try with_reducible rfl))
    simp only[Act.put,List.setIfInBounds_toArray]
    refine wpAnyH_take (i:=2) (oi:=_) (v:=?v2) rfl (by kernel_rfl) (by kernel_rfl) (by kernel_rfl) (fun _ _ _ h=>h) (Or.inl ⟨by rfl,?h2⟩) (by assumption) ?_
    case h2=>(intro w hSw;(try dsimp only at hSw);go_simp;(try with_reducible rfl))
    simp only[Act.put,List.setIfInBounds_toArray]
    refine wpAnyH_take (i:=3) (oi:=_) (v:=?v3) rfl (by kernel_rfl) (by kernel_rfl) (by kernel_rfl) (fun _ _ _ h=>h) (Or.inl ⟨by rfl,?h3⟩) (by assumption) ?_
    case h3=>(intro w hSw;(try dsimp only at hSw);go_simp;(try with_reducible rfl))
    simp only[Act.put,List.setIfInBounds_toArray]
    refine wpAnyH_take (i:=4) (oi:=_) (v:=?v4) rfl (by kernel_rfl) (by kernel_rfl) (by kernel_rfl) (fun _ _ _ h=>h) (Or.inl ⟨by rfl,?h4⟩) (by assumption) ?_
    case h4=>(intro w hSw;(try dsimp only at hSw);go_simp;(try with_reducible rfl))
    simp only[Act.put,List.setIfInBounds_toArray]
    refine wpAnyH_take (i:=5) (oi:=_) (v:=?v5) rfl (by kernel_rfl) (by kernel_rfl) (by kernel_rfl) (fun _ _ _ h=>h) (Or.inl ⟨by rfl,?h5⟩) (by assumption) ?_
    case h5=>(intro w hSw;(try dsimp only at hSw);go_simp;(try with_reducible rfl))
    simp only[Act.put,List.setIfInBounds_toArray]
    refine wpAnyH_take (i:=6) (oi:=_) (v:=?v6) rfl (by kernel_rfl) (by kernel_rfl) (by kernel_rfl) (fun _ _ _ h=>h) (Or.inl ⟨by rfl,?h6⟩) (by assumption) ?_
    case h6=>(intro w hSw;(try dsimp only at hSw);go_simp;(try with_reducible rfl))
    simp only[Act.put,List.setIfInBounds_toArray]
    refine wpAnyH_take (i:=7) (oi:=_) (v:=?v7) rfl (by kernel_rfl) (by kernel_rfl) (by kernel_rfl) (fun _ _ _ h=>h) (Or.inl ⟨by rfl,?h7⟩) (by assumption) ?_
    case h7=>(intro w hSw;(try dsimp only at hSw);go_simp;(try with_reducible rfl))
    simp only[Act.put,List.setIfInBounds_toArray]
    refine wpAnyH_take (i:=8) (oi:=_) (v:=?v8) rfl (by kernel_rfl) (by kernel_rfl) (by kernel_rfl) (fun _ _ _ h=>h) (Or.inl ⟨by rfl,?h8⟩) (by assumption) ?_
    case h8=>(intro w hSw;(try dsimp only at hSw);go_simp;(try with_reducible rfl))
    simp only[Act.put,List.setIfInBounds_toArray]
    refine wpAnyH_take (i:=9) (oi:=_) (v:=?v9) rfl (by kernel_rfl) (by kernel_rfl) (by kernel_rfl) (fun _ _ _ h=>h) (Or.inl ⟨by rfl,?h9⟩) (by assumption) ?_
    case h9=>(intro w hSw;(try dsimp only at hSw);go_simp;(try with_reducible rfl))
    simp only[Act.put,List.setIfInBounds_toArray]
    refine wpAnyH_take (i:=10) (oi:=_) (v:=?v10) rfl (by kernel_rfl) (by kernel_rfl) (by kernel_rfl) (fun _ _ _ h=>h) (Or.inl ⟨by rfl,?h10⟩) (by assumption) ?_
    case h10=>(intro w hSw;(try dsimp only at hSw);go_simp;(try with_reducible rfl))
    simp only[Act.put,List.setIfInBounds_toArray]
    refine wpAnyH_ready (rs:=[11]) (by kernel_rfl) (by simp) ?_
    refine AllReadyH.cons (o:=_) rfl (fun K hK=>?_) AllReadyH.nil
    go_simp
    refine hK.out _ _ ?_ (fun hHeld11=>?_)
    ·go_keep
    clear hK K
    simp only[List.setIfInBounds_toArray]
    refine wpAnyH_ready (rs:=[12]) (by kernel_rfl) (by simp) ?_
    refine AllReadyH.cons (o:=_) rfl (fun K hK=>?_) AllReadyH.nil
    (refine qQ1 (v:=vs d) rfl (.tmp 33) (.tmp 39) _ rfl eiRun (by decide) (by decide) (fun _ _ h=>h.one) rfl (HOWN.out _ ((((Below.refl wr.heap.size wr).alloc (Nat.le_refl _) _).drew).alloc (by simp) _)) rfl (SlP.one (x:=(fr,hi)) HRE.out rfl _ (by simp)) HL.out (by simp;omega) ?_;intro v1 w4 hown4 hb4 hg4 hv4;have hsh4:=OwnP.shape hown4;simp only[List.length_append,List.length_singleton]at hsh4;obtain⟨A1,c1,hv1⟩:=hsh4;subst hv1;have hg4h:=hid (HGB.out _ _ ((((Below.refl wr.heap.size wr).alloc (Nat.le_refl _) _).drew).alloc (by simp) _) hg4);have hc4:w4.cell? ⟨w.heap.size+1,d,none⟩=some (vs d):=(Qa ((hg4h.out _ (by omega)).trans HR4.out.arr)).trans (ZP vs hd4);have hf4:w4.frozen? ⟨w.heap.size+1,d,none⟩=false:=Qb ((hg4h.out _ (by omega)).trans HR4.out.arr);have hx3:=(hg4.block wr.heap.size (by simp;omega) (fun e=>by have:=HLT.out _ e.symm;omega)).trans ((Qg (by simp)).trans (Qc (o:=.cells #[.int .i64 (d:Int),.int .i64 fr,.int .i64 hi] 45) rfl));have hx4:Hid (w4.cell? ⟨wr.heap.size,0,none⟩=some (.int .i64 (d:Int))/\w4.cell? ⟨wr.heap.size,1,none⟩=some (.int .i64 fr)/\w4.cell? ⟨wr.heap.size,2,none⟩=some (.int .i64 hi)/\w4.cell? ⟨w.heap.size+1,d,none⟩=some (vs d)):=⟨(Qa (i:=0) hx3).trans rfl,(Qa (i:=1) hx3).trans rfl,(Qa (i:=2) hx3).trans rfl,hc4⟩;clear hx3)
    refine hK.out _ _ ?_ (fun hHeld12=>?_)
    ·exact hx4.out
    clear hK K
    simp only[Act.put,List.setIfInBounds_toArray]
    refine wpAnyH_take (i:=13) (oi:=_) (v:=?v13) rfl (by kernel_rfl) (by kernel_rfl) (by kernel_rfl) (fun _ _ _ h=>h) (Or.inl ⟨by rfl,?h13⟩) (by assumption) ?_
    case h13=>(intro w hSw;(try dsimp only at hSw);go_simp;(try with_reducible rfl))
    simp only[Act.put,List.setIfInBounds_toArray]
    refine wpAnyH_done (by kernel_rfl) ?_ _
    change wpList _ _ _ _ _ _
    go_wp2_with fail
    go_roundw
    case rel=>
     refine⟨k+1,(d:Int),by omega,by go_num,rfl,by omega,by omega,HDR.out,fun i=>if i=d then .slice A1 ((partL (c.take k) d).length+1) c1 else vs i,?_,?_,?_⟩
     ·rw[HPD.out]
      exact Rows4.put (w:=((wr.alloc (.cells #[.int .i64 (d:Int),.int .i64 fr,.int .i64 hi] 45)).alloc (.cells #[.int .i64 fr,.int .i64 hi] 181)).drew) (((HR4.out.grow ((Below.refl _ wr).alloc (Nat.le_refl _) _)).grow ((Below.refl _ _).alloc (Nat.le_refl _) _)).same rfl) hd4 hown4 hg4 hv4
     ·exact (Below.heap_setCell _ _ _ _ (by simp)).trans ((hg4h.out _ (by omega)).trans HG.out)
     ·exact (((((hb.alloc hsz _).drew).alloc (by simp;omega) _).trans (hb4.mono (by omega))).setCell (by simp) _)
    case measure=>simp[intOf];omega
  ·obtain rfl:k=c.length:=by omega
   rw[List.take_of_length_le (Nat.le_refl _)]at hr4
   have c0:wr.cell? ⟨w.heap.size+1,0,none⟩=some (vs 0):=hr4.at (by omega)
   have c1:wr.cell? ⟨w.heap.size+1,1,none⟩=some (vs 1):=hr4.at (by omega)
   have c2:wr.cell? ⟨w.heap.size+1,2,none⟩=some (vs 2):=hr4.at (by omega)
   have c3:wr.cell? ⟨w.heap.size+1,3,none⟩=some (vs 3):=hr4.at (by omega)
   have HR:=hid hr4
   have HG:=hid hg2
   have hD:dcsOk 0 c=true:=by rw[←hrel.out];simp[dcsOk]
   have HD:=hid hD
   clear hr4 hg2 hrel hD b3
   go_wp2_with fail
   obtain⟨wo,rfl⟩:∃ wo:World,wo=wr:=⟨_,rfl⟩
   go_loopw [44] (fun i wr=>∃ k:Nat,k<=4/\i=.int .i64 k/\Hid ((List.range k).all (fun (dc:Nat)=>runsR none (partL c dc))=true)/\Below wo.heap.size wo wr) (fun i _=>4-(intOf i).toNat)
   case atStart=>exact⟨0,by omega,rfl,rfl,Below.refl _ _⟩
   case round=>
    obtain⟨k,hk,rfl,hrel,hbi⟩:=hrel
    have hsi:=hbi.size
    by_cases hk4:k<4
    ·have hidx:∀ w,(Instr.index 150 (.agg #[vs 0,vs 1,vs 2,vs 3]) (.int .i64 (k:Int))).run Tryz.prog w=.ok (vs k) w:=fun w=>by
      match k,hk4 with
      |0,_=>rfl
      |1,_=>rfl
      |2,_=>rfl
      |3,_=>rfl
     have HSL:Hid (SlP wr wr.heap.size 2 RuE (vs k) (partL c k)):=(HR.out.sl hk4 (by have:=QO c k;unfold Big;omega)).imp hbi hsi fun _ _ _ h=>h
     have hz4:w.heap.size<wo.heap.size:=by omega
     cases hq:runsR none (partL c k)
     ·have HF:Hid (Qm c=false):=by
       unfold Hid Qm
       have:(List.range 4).all (fun (dc:Nat)=>runsR none (partL c dc))=false:=by
        rw[List.all_eq_false];exact⟨k,by simpa using hk4,by rw[hq];simp⟩
       rw[this];simp
      have HQ:=hid hq
      clear hq c0 c1 c2 c3
      go_wp2_with (go_at_call 190;refine (Yp (partL c k) (vs k) wr HSL.out).mono ?_;rw[HQ.out];rintro e w1 ⟨rfl,hb1⟩;have hz:=hid ((hb1.block w.heap.size (by omega)).trans ((hbi.block w.heap.size hz4).trans HG.out));have hBz:=(hb.trans (hbi.mono hsz)).trans (hb1.mono (by omega));have z0:=Qb (i:=0) hz.out;have z1:=Qb (i:=1) hz.out;have z2:=Qb (i:=2) hz.out;have z3:=Qb (i:=3) hz.out;have c0:w1.cell? ⟨w.heap.size,0,none⟩=some (.slice none 0 0):=Qa (i:=0) hz.out;have c1:w1.cell? ⟨w.heap.size,1,none⟩=some (.slice none 0 0):=Qa (i:=1) hz.out;have c2:w1.cell? ⟨w.heap.size,2,none⟩=some (.slice none 0 0):=Qa (i:=2) hz.out;have c3:w1.cell? ⟨w.heap.size,3,none⟩=some (.slice none 0 0):=Qa (i:=3) hz.out)
      go_wp2_with fail
      have hW0:=Qe (i:=3) (Qe (i:=2) (Qe (i:=1) (Qe (i:=0) hz.out (.slice none 0 0)) (.slice none 0 0)) (.slice none 0 0)) (.slice none 0 0)
      have hBW:Below w.heap.size w ((((((w1).setCell ⟨w.heap.size,0,none⟩ (.slice none 0 0)).setCell ⟨w.heap.size,1,none⟩ (.slice none 0 0)).setCell ⟨w.heap.size,2,none⟩ (.slice none 0 0)).setCell ⟨w.heap.size,3,none⟩ (.slice none 0 0))):=(((hBz.setCell (Nat.le_refl _) _).setCell (Nat.le_refl _) _).setCell (Nat.le_refl _) _).setCell (Nat.le_refl _) _
      clear c0 c1 c2 c3 z0 z1 z2 z3
      generalize (((((w1).setCell ⟨w.heap.size,0,none⟩ (.slice none 0 0)).setCell ⟨w.heap.size,1,none⟩ (.slice none 0 0)).setCell ⟨w.heap.size,2,none⟩ (.slice none 0 0)).setCell ⟨w.heap.size,3,none⟩ (.slice none 0 0))=W at *
      have hWs:w.heap.size<W.heap.size:=(Array.getElem?_eq_some_iff.1 hW0).1
      have r0:(W).cell? ⟨w.heap.size,0,none⟩=some (.slice none 0 0):=(Qa (i:=0) ((id) hW0)).trans (by simp)
      have r1:(W).cell? ⟨w.heap.size,1,none⟩=some (.slice none 0 0):=(Qa (i:=1) ((id) hW0)).trans (by simp)
      have r2:(W).cell? ⟨w.heap.size,2,none⟩=some (.slice none 0 0):=(Qa (i:=2) ((id) hW0)).trans (by simp)
      have r3:(W).cell? ⟨w.heap.size,3,none⟩=some (.slice none 0 0):=(Qa (i:=3) ((id) hW0)).trans (by simp)
      have hBX:Below w.heap.size w (W):=(id) hBW
      refine bodyPost_ret (v:=.tuple #[.agg #[.slice none 0 0,.slice none 0 0,.slice none 0 0,.slice none 0 0],.bool false]) (by simp[results,Tryz.results152,go_sem,r0,r1,r2,r3]) rfl ⟨fun _=>.slice none 0 0,by rw[HF.out],fun i _=>by rw[HF.out];exact⟨none,0,rfl,Nat.le_refl _,by simp,fun h=>absurd rfl h⟩,hBX⟩
     ·have HN:Hid ((List.range (k+1)).all (fun (dc:Nat)=>runsR none (partL c dc))=true):=by
       unfold Hid;rw[List.range_succ,List.all_append,hrel.out];simp[hq]
      have HQ:=hid hq
      clear hq
      go_wp2_with (go_at_call 190;refine (Yp (partL c k) (vs k) wr HSL.out).mono ?_;rw[HQ.out];rintro e w1 ⟨rfl,hb1⟩)
      go_roundw
      case rel=>exact⟨k+1,by omega,by go_num,HN.out,hbi.trans (hb1.mono hsi)⟩
      case measure=>simp[intOf];omega
    ·obtain rfl:k=4:=by omega
     have HT:Hid (Qm c=true):=by unfold Hid Qm;rw[HD.out,hrel.out];rfl
     have HR2:=hid (HR.out.grow hbi)
     have hz:=hid ((hbi.block w.heap.size (by omega)).trans HG.out)
     have hBz:=hb.trans (hbi.mono hsz)
     have hsz6:w.heap.size<wr.heap.size:=by omega
     have hsz7:w.heap.size+1<wr.heap.size:=by omega
     clear c0 c1 c2 c3
     have z0:=Qb (i:=0) hz.out
     have z1:=Qb (i:=1) hz.out
     have z2:=Qb (i:=2) hz.out
     have z3:=Qb (i:=3) hz.out
     have c0:wr.cell? ⟨w.heap.size,0,none⟩=some (.slice none 0 0):=Qa (i:=0) hz.out
     have c1:wr.cell? ⟨w.heap.size,1,none⟩=some (.slice none 0 0):=Qa (i:=1) hz.out
     have c2:wr.cell? ⟨w.heap.size,2,none⟩=some (.slice none 0 0):=Qa (i:=2) hz.out
     have c3:wr.cell? ⟨w.heap.size,3,none⟩=some (.slice none 0 0):=Qa (i:=3) hz.out
     have d0:wr.cell? ⟨w.heap.size+1,0,none⟩=some (vs 0):=HR2.out.at (by omega)
     have d1:wr.cell? ⟨w.heap.size+1,1,none⟩=some (vs 1):=HR2.out.at (by omega)
     have d2:wr.cell? ⟨w.heap.size+1,2,none⟩=some (vs 2):=HR2.out.at (by omega)
     have d3:wr.cell? ⟨w.heap.size+1,3,none⟩=some (vs 3):=HR2.out.at (by omega)
     obtain⟨A0,m0,g0⟩:=(HR2.out.own 0 (by omega)).shape
     obtain⟨A1,m1,g1⟩:=(HR2.out.own 1 (by omega)).shape
     obtain⟨A2,m2,g2⟩:=(HR2.out.own 2 (by omega)).shape
     obtain⟨A3,m3,g3⟩:=(HR2.out.own 3 (by omega)).shape
     have G0:=hid g0
     have G1:=hid g1
     have G2:=hid g2
     have G3:=hid g3
     simp only[g0,g1,g2,g3]at d0 d1 d2 d3 ⊢
     clear g0 g1 g2 g3
     go_wp2_with fail
     have hW0:=Qe (i:=3) (Qe (i:=2) (Qe (i:=1) (Qe (i:=0) hz.out (vs 0)) (vs 1)) (vs 2)) (vs 3)
     have hBW:Below w.heap.size w ((((wr.setCell ⟨w.heap.size,0,none⟩ (vs 0)).setCell ⟨w.heap.size,1,none⟩ (vs 1)).setCell ⟨w.heap.size,2,none⟩ (vs 2)).setCell ⟨w.heap.size,3,none⟩ (vs 3)):=(((hBz.setCell (Nat.le_refl _) _).setCell (Nat.le_refl _) _).setCell (Nat.le_refl _) _).setCell (Nat.le_refl _) _
     have hOW:∀ i,i<4->OwnP ((((wr.setCell ⟨w.heap.size,0,none⟩ (vs 0)).setCell ⟨w.heap.size,1,none⟩ (vs 1)).setCell ⟨w.heap.size,2,none⟩ (vs 2)).setCell ⟨w.heap.size,3,none⟩ (vs 3)) (w.heap.size+2) 181 2 RuE (vs i) (partL c i):=fun i hi=>
      ((((HR2.out.own i hi).setOther (a:=⟨w.heap.size,0,none⟩) (by simp) _).setOther (a:=⟨w.heap.size,1,none⟩) (by simp) _).setOther (a:=⟨w.heap.size,2,none⟩) (by simp) _).setOther (a:=⟨w.heap.size,3,none⟩) (by simp) _
     rw[G0.out,G1.out,G2.out,G3.out]at hW0 hBW
     simp only[G0.out,G1.out,G2.out,G3.out]at hOW
     clear c0 c1 c2 c3 z0 z1 z2 z3 d0 d1 d2 d3
     generalize ((((wr.setCell ⟨w.heap.size,0,none⟩ (.slice A0 (partL c ((0:Nat):Int)).length m0)).setCell ⟨w.heap.size,1,none⟩ (.slice A1 (partL c ((1:Nat):Int)).length m1)).setCell ⟨w.heap.size,2,none⟩ (.slice A2 (partL c ((2:Nat):Int)).length m2)).setCell ⟨w.heap.size,3,none⟩ (.slice A3 (partL c ((3:Nat):Int)).length m3))=W at *
     have r0:W.cell? ⟨w.heap.size,0,none⟩=some _:=(Qa (i:=0) hW0).trans rfl
     have r1:W.cell? ⟨w.heap.size,1,none⟩=some _:=(Qa (i:=1) hW0).trans rfl
     have r2:W.cell? ⟨w.heap.size,2,none⟩=some _:=(Qa (i:=2) hW0).trans rfl
     have r3:W.cell? ⟨w.heap.size,3,none⟩=some _:=(Qa (i:=3) hW0).trans rfl
     refine bodyPost_ret (v:=.tuple #[.agg #[vs 0,vs 1,vs 2,vs 3],.bool true]) (by simp[results,Tryz.results152,go_sem,r0,r1,r2,r3,G0.out,G1.out,G2.out,G3.out]) rfl ⟨vs,by rw[HT.out],fun i hi=>by rw[HT.out];exact ((hOW i hi).sla (by have:=QO c i;unfold Big;simp;omega)).up (fun _ _=>rfl) (fun b hb=>⟨by have:=hb.1;omega,hb.2.1⟩) (fun _ _ _ h=>h),hBW⟩
def cmpS (a b:ByteArray):Int:=if ltS a b then -1 else if ltS b a then 1 else 0
theorem qZg (a b:ByteArray)(w:World):Calls Tryz.prog 200 #[.string a,.string b] w fun e w'=>e=.returned (.int .i64 (cmpS a b))/\w=w':=by
 have hgt:=qYx b a
 have hE:Hid (cmpS a b=if Op.bytesLess a.toList b.toList then -1 else if ltS b a then 1 else 0):=rfl
 have hN1:(!(a.toList==a.toList))=false:=by simp
 have hN2:(!(b.toList==b.toList))=false:=by simp
 go_enter Tryz.func200,Tryz.ntmps200
 rcases g1:Op.bytesLess a.toList b.toList
 ·rcases g2:(a.toList==b.toList)
  ·have g3:¬a.toList=b.toList:=by simpa using g2
   have HR:Hid (cmpS a b=1):=by unfold Hid;rw[hE.out,g1,hgt,g1,g2];rfl
   clear hgt hE
   go_wp2
   go_ret
   exact⟨Qn HR.out.symm,rfl⟩
  ·have g3:a.toList=b.toList:=by simpa using g2
   have HR:Hid (cmpS a b=0):=by unfold Hid;rw[hE.out,g1,hgt,g1,g2];rfl
   obtain rfl:a=b:=(QN a b).1 g3
   clear hgt hE g3
   go_wp2
   go_ret
   exact⟨Qn HR.out.symm,rfl⟩
 ·have HR:Hid (cmpS a b=-1):=by unfold Hid;rw[hE.out,g1];rfl
  clear hgt hE
  go_wp2
  go_ret
  exact⟨Qn HR.out.symm,rfl⟩
def grtE (a b:En):En:=if orI (cmpI a.v b.v) (cmpS a.s b.s)<0 then b else a
theorem qXz (a b:En)(w:World):Calls Tryz.prog 196 #[.agg #[.int .i64 a.dc,.int .i64 a.n,.string a.s,.int .i64 a.v],.agg #[.int .i64 b.dc,.int .i64 b.n,.string b.s,.int .i64 b.v]] w fun e w'=>e=.returned (.agg #[.int .i64 (grtE a b).dc,.int .i64 (grtE a b).n,.string (grtE a b).s,.int .i64 (grtE a b).v])/\Below w.heap.size w w':=by
 go_enter Tryz.func196,Tryz.ntmps196
 go_upto_region 1 with (fail)
 go_region_held3 (fun w'=>w'.cell? ⟨w.heap.size,1,none⟩=some (.int .i64 a.n)/\w'.cell? ⟨w.heap.size,2,none⟩=some (.string a.s)/\w'.cell? ⟨w.heap.size,3,none⟩=some (.int .i64 a.v)/\w'.cell? ⟨w.heap.size+1,2,none⟩=some (.string b.s)/\w'.cell? ⟨w.heap.size+1,3,none⟩=some (.int .i64 b.v)) (go_keep)
  (first|(go_at_call 157;refine (Xv _ _ _).mono ?_;rintro e w' ⟨rfl,rfl⟩)|(go_at_call 200;refine (qZg _ _ _).mono ?_;rintro e w' ⟨rfl,rfl⟩)|(go_at_call 230;refine (qV2 (cmpI a.v b.v) (cmpS a.s b.s) _ _ (by rw[World.cell?_drew,World.cell?_alloc_at _ _ _ _ (by simp)];rfl) (by rw[World.cell?_drew,World.cell?_alloc_at _ _ _ _ (by simp)];rfl)).mono ?_;rintro e w' ⟨rfl,rfl⟩))
 have hB:Below w.heap.size w (((((w.alloc (.cells #[.int .i64 a.dc,.int .i64 a.n,.string a.s,.int .i64 a.v] 92)).alloc (.cells #[.int .i64 b.dc,.int .i64 b.n,.string b.s,.int .i64 b.v] 92)).alloc (.cells #[.int .i64 0,.int .i64 0,.string ⟨#[]⟩,.int .i64 0] 92)).alloc (.cells #[.int .i64 (cmpI a.v b.v),.int .i64 (cmpS a.s b.s)] 3)).drew):=by go_grown
 have g0:(((((w.alloc (.cells #[.int .i64 a.dc,.int .i64 a.n,.string a.s,.int .i64 a.v] 92)).alloc (.cells #[.int .i64 b.dc,.int .i64 b.n,.string b.s,.int .i64 b.v] 92)).alloc (.cells #[.int .i64 0,.int .i64 0,.string ⟨#[]⟩,.int .i64 0] 92)).alloc (.cells #[.int .i64 (cmpI a.v b.v),.int .i64 (cmpS a.s b.s)] 3)).drew).heap[w.heap.size]?=some (.cells #[.int .i64 a.dc,.int .i64 a.n,.string a.s,.int .i64 a.v] 92 (0,0)):=(Qg (by simp<;>omega)).trans ((Qg (by simp<;>omega)).trans ((Qg (by simp)).trans (Qc rfl)))
 have g1:(((((w.alloc (.cells #[.int .i64 a.dc,.int .i64 a.n,.string a.s,.int .i64 a.v] 92)).alloc (.cells #[.int .i64 b.dc,.int .i64 b.n,.string b.s,.int .i64 b.v] 92)).alloc (.cells #[.int .i64 0,.int .i64 0,.string ⟨#[]⟩,.int .i64 0] 92)).alloc (.cells #[.int .i64 (cmpI a.v b.v),.int .i64 (cmpS a.s b.s)] 3)).drew).heap[w.heap.size+1]?=some (.cells #[.int .i64 b.dc,.int .i64 b.n,.string b.s,.int .i64 b.v] 92 (0,0)):=(Qg (by simp<;>omega)).trans ((Qg (by simp)).trans (Qc (by simp)))
 have g2:(((((w.alloc (.cells #[.int .i64 a.dc,.int .i64 a.n,.string a.s,.int .i64 a.v] 92)).alloc (.cells #[.int .i64 b.dc,.int .i64 b.n,.string b.s,.int .i64 b.v] 92)).alloc (.cells #[.int .i64 0,.int .i64 0,.string ⟨#[]⟩,.int .i64 0] 92)).alloc (.cells #[.int .i64 (cmpI a.v b.v),.int .i64 (cmpS a.s b.s)] 3)).drew).heap[w.heap.size+2]?=some (.cells #[.int .i64 0,.int .i64 0,.string ⟨#[]⟩,.int .i64 0] 92 (0,0)):=(Qg (by simp)).trans (Qc (by simp))
 have a0:=Qa (i:=0) g0
 have a1:=Qa (i:=1) g0
 have a2:=Qa (i:=2) g0
 have a3:=Qa (i:=3) g0
 have b0:=Qa (i:=0) g1
 have b1:=Qa (i:=1) g1
 have b2:=Qa (i:=2) g1
 have b3:=Qa (i:=3) g1
 obtain⟨k0,k1,k2,k3,z0,z1,z2,z3⟩:=bz4 g2
 have HG:=hid g2
 clear g0 g1 g2
 simp only[List.getElem?_toArray,List.getElem?_cons_zero,List.getElem?_cons_succ]at a0 a1 a2 a3 b0 b1 b2 b3 k0 k1 k2 k3
 generalize ((((w.alloc (.cells #[.int .i64 a.dc,.int .i64 a.n,.string a.s,.int .i64 a.v] 92)).alloc (.cells #[.int .i64 b.dc,.int .i64 b.n,.string b.s,.int .i64 b.v] 92)).alloc (.cells #[.int .i64 0,.int .i64 0,.string ⟨#[]⟩,.int .i64 0] 92)).alloc (.cells #[.int .i64 (cmpI a.v b.v),.int .i64 (cmpS a.s b.s)] 3)).drew=W at *
 have HGR:Hid (grtE a b=if orI (cmpI a.v b.v) (cmpS a.s b.s)<0 then b else a):=rfl
 rcases hc:decide (orI (cmpI a.v b.v) (cmpS a.s b.s)<0)
 ·have HE:Hid (grtE a b=a):=by unfold Hid;rw[HGR.out,if_neg (of_decide_eq_false hc)]
  go_wp2_with fail
  have hW4:=Qe (i:=3) (Qe (i:=2) (Qe (i:=1) (Qe (i:=0) HG.out (.int .i64 a.dc)) (.int .i64 a.n)) (.string a.s)) (.int .i64 a.v)
  have r0:=(Qa (i:=0) hW4).trans (show _=some (.int .i64 a.dc) by simp)
  have r1:=(Qa (i:=1) hW4).trans (show _=some (.int .i64 a.n) by simp)
  have r2:=(Qa (i:=2) hW4).trans (show _=some (.string a.s) by simp)
  have r3:=(Qa (i:=3) hW4).trans (show _=some (.int .i64 a.v) by simp)
  refine bodyPost_ret (v:=.agg #[.int .i64 a.dc,.int .i64 a.n,.string a.s,.int .i64 a.v]) (by simp[results,Tryz.results196,go_sem,r0,r1,r2,r3]) rfl ⟨by rw[HE.out],(((hB.setCell (by simp<;>omega) _).setCell (by simp<;>omega) _).setCell (by simp<;>omega) _).setCell (by simp<;>omega) _⟩
 ·have HE:Hid (grtE a b=b):=by unfold Hid;rw[HGR.out,if_pos (of_decide_eq_true hc)]
  go_wp2_with fail
  have hW4:=Qe (i:=3) (Qe (i:=2) (Qe (i:=1) (Qe (i:=0) HG.out (.int .i64 b.dc)) (.int .i64 b.n)) (.string b.s)) (.int .i64 b.v)
  have r0:=(Qa (i:=0) hW4).trans (show _=some (.int .i64 b.dc) by simp)
  have r1:=(Qa (i:=1) hW4).trans (show _=some (.int .i64 b.n) by simp)
  have r2:=(Qa (i:=2) hW4).trans (show _=some (.string b.s) by simp)
  have r3:=(Qa (i:=3) hW4).trans (show _=some (.int .i64 b.v) by simp)
  refine bodyPost_ret (v:=.agg #[.int .i64 b.dc,.int .i64 b.n,.string b.s,.int .i64 b.v]) (by simp[results,Tryz.results196,go_sem,r0,r1,r2,r3]) rfl ⟨by rw[HE.out],(((hB.setCell (by simp<;>omega) _).setCell (by simp<;>omega) _).setCell (by simp<;>omega) _).setCell (by simp<;>omega) _⟩
theorem SlP.oneN {α:Type}{w:World}{o:Obj}{sz n:Nat}{E:α->List Value->Prop}{x:α}{cs:List Value}(hE:E x cs)(hl:cs.length=sz)(e:TypeId)(hn:n=w.heap.size+1) :
  SlP ((w.alloc o).alloc (.cells cs.toArray e)) ((w.alloc o).alloc (.cells cs.toArray e)).heap.size sz E (.slice (some ⟨n,0,none⟩) 1 1) [x]:=
 SlP.oneB hE hl e (hn.trans (World.size_alloc _ _).symm) (by rw[World.size_alloc,World.size_alloc];omega)
def Q4 (t:Tr):List ByteArray:=if t.right 5 then t.ks.map (·.1) else []
theorem qWw (t:Tr)(w:World)(ve vk:Value)(h:t.rd w w.heap.size ve vk)(hN:t.ks.length<=900000) :
  Calls Tryz.prog 94 #[.agg #[ve,vk]] w (RetO w 9 1 (fun _=>StE) (Q4 t)):=by
 have HC:Hid (∀ w',Below w.heap.size w w'->t.rd w' w'.heap.size ve vk):=fun w' hb=>Qi hb hb.size _ _ _ h
 have HK0:Hid (Q4 t=if t.right 5 then t.ks.map (·.1) else []):=rfl
 obtain⟨es,ks⟩:=t
 rw[Qz]at h
 obtain⟨⟨A0,n0,rfl,d1,d2,d3⟩,⟨A,m,rfl,c1,c2,c3⟩⟩:=h
 unfold Big at c2 d2
 simp only[Tr.ks]at hN HK0 ⊢
 have hb0:Below w.heap.size w (w.alloc (.cells #[.slice A0 es.length n0,.slice A ks.length m] 25)):=(Below.refl _ w).alloc (Nat.le_refl _) _
 go_enter Tryz.func94,Tryz.ntmps94
 go_wp2_with fail
 refine (QJ _ _ _ _ (HC.out _ hb0)).mono ?_
 rintro e w1 ⟨rfl,hb1⟩
 have hs1:=hb1.size
 simp only[World.size_alloc]at hs1
 have hB1:Below w.heap.size w w1:=hb0.trans (hb1.mono (by simp))
 have b1:w1.cell? ⟨w.heap.size,1,none⟩=some (.slice A ks.length m):=by rw[hb1.cell (p:=⟨w.heap.size,1,none⟩) (by simp)];simp
 cases hr:(Tr.mk es ks).right 5
 ·have HK:Hid (Q4 (.mk es ks)=[]):=by unfold Hid;rw[HK0.out,hr];rfl
  clear hr
  go_wp2_with fail
  go_ret
  exact⟨_,rfl,by rw[HK.out];exact OwnP.nil,hB1⟩
 have HK:Hid (Q4 (.mk es ks)=ks.map (·.1)):=by unfold Hid;rw[HK0.out,hr];rfl
 clear hr d3 d2 d1
 go_wp2_with fail
 go_loopw [3,11] (fun v i wr=>∃ k:Nat,k<=ks.length/\i=.int .i64 k/\OwnP wr (w.heap.size+1) 9 1 StE v ((ks.take k).map (·.1))/\Below (w.heap.size+1) w1 wr) (fun _ i _=>ks.length-(intOf i).toNat)
 case atStart=>exact⟨0,Nat.zero_le _,rfl,OwnP.nil,Below.refl _ _⟩
 case round=>
  obtain⟨k,hk,rfl,hown,hb⟩:=hrel
  have hsz:=hb.size
  have hB0:Below w.heap.size w wr:=hB1.trans (hb.mono (by omega))
  by_cases hlt:k<ks.length
  ·obtain⟨⟨key,t⟩,hx⟩:∃ x,ks[k]?=some x:=⟨_,List.getElem?_eq_getElem hlt⟩
   obtain⟨b,off,rfl,hbB,hc⟩:=c3 (by rintro rfl;simp at hlt)
   obtain⟨cs,⟨ve',vk',rfl,hkb,hrd⟩,_,hu⟩:=hc k _ hx
   obtain⟨A5,n5,A6,n6,rfl,rfl⟩:=Qk hrd
   have e0:wr.cell? ⟨b,off+k*3,none⟩=some (.string key):=(hB0.cell hbB).trans (hu 0 _ rfl)
   have e1:wr.cell? ⟨b,off+k*3+1,none⟩=some (.slice A5 t.es.length n5):=(hB0.cell hbB).trans (hu 1 _ rfl)
   have e2:wr.cell? ⟨b,off+k*3+2,none⟩=some (.slice A6 t.ks.length n6):=(hB0.cell hbB).trans (hu 2 _ rfl)
   have HX:Hid ((ks.take (k+1)).map (·.1)=(ks.take k).map (·.1)++[key]):=by unfold Hid;rw[List.take_add_one,hx];simp
   have HL:Hid (((ks.take k).map (·.1)).length + [key].length<=Few):=by unfold Hid Few;simp;omega
   have HKY:Hid (StE key [.string key]):=⟨rfl,hkb⟩
   clear hu hc c3 hx hrd hb0 hb1 b1
   go_wp2_with (at_builtin;go_loud ((with_reducible refine Ql rfl (.tmp 15) (.tmp 18) _ rfl eiStr (by decide) (by decide) (fun _ _ h=>StE.one h) rfl ((hown.alloc _).alloc _) rfl (SlP.oneN (x:=key) HKY.out rfl _ rfl) HL.out (by simp only[World.size_alloc];omega) ?_);intro v1 w2 hown1 hb2 _;have hb3:=(((Below.refl (w.heap.size+1) wr).alloc (by omega) _).alloc (by simp only[World.size_alloc];omega) _).trans hb2))
   go_roundw
   case rel=>exact⟨k+1,by omega,by go_num,by rw[HX.out];exact hown1,hb.trans hb3⟩
   case measure=>simp[intOf];omega
  ·obtain rfl:k=ks.length:=by omega
   rw[List.take_of_length_le (Nat.le_refl _)]at hown
   go_wp2_with fail
   go_ret
   exact⟨_,rfl,by rw[HK.out];exact hown.mono (by omega),hB0⟩
def inn (how:Int)(p q:Bool):Bool:=if how=2 then p&&!q else if how=1 then p&&q else p||q
def byOut (out:List (Int×Int))(at' to':Int):List (Int×Int):=
 match out.getLast? with
 |some r=>if r.2=at'-1 then out.set (out.length-1) (r.1,to'-1) else out++[(at',to'-1)]
 |none=>[(at',to'-1)]
def byGo (a b:List (Int×Int))(how:Int)(ps:List Int):Nat->Int×Bool->List (Int×Int)->List (Int×Int)
 |0,_,out=>out
 |n+1,s,out=>if s.2 then byGo a b how ps n (nextL ps s.1) (if inn how (hasL a s.1) (hasL b s.1) then byOut out s.1 (nextL ps s.1).1 else out) else out
def byL (a b:List (Int×Int))(how:Int):List (Int×Int):=byGo a b how (endsL a++endsL b) ((endsL a++endsL b).length+1) (nextL (endsL a++endsL b) 0) []
def cnt (ps:List Int)(x:Int):Nat:=(ps.filter fun y=>decide (x<=y)).length
theorem Jc (a b:List (Int×Int))(how:Int)(ps:List Int)(n:Nat)(x:Int)(out:List (Int×Int)):byGo a b how ps n (x,false) out=out:=by
 cases n<;>simp[byGo]
theorem Xy:∀ (l:List Int) (above:Int) (s:Int×Bool),(s.2=true->above<s.1)->(l.foldl (nextS above) s=s∨(l.foldl (nextS above) s).1∈l)/\((l.foldl (nextS above) s).2=true->above<(l.foldl (nextS above) s).1)
 |[],_,s,hs=>⟨.inl rfl,hs⟩
 |x :: l,above,s,hs=>by
  simp only[List.foldl_cons]
  by_cases hc:above<x/\(s.2=false∨x<s.1)
  ·have e:nextS above s x=(x,true):=by simp[nextS,hc]
   rw[e]
   obtain⟨h1,h2⟩:=Xy l above (x,true) (fun _=>hc.1)
   refine⟨.inr ?_,h2⟩
   rcases h1 with h1|h1
   ·rw[h1];simp
   ·exact List.mem_cons_of_mem _ h1
  ·have e:nextS above s x=s:=by simp only[nextS,if_neg hc]
   rw[e]
   obtain⟨h1,h2⟩:=Xy l above s hs
   refine⟨?_,h2⟩
   rcases h1 with h1|h1
   ·exact .inl h1
   ·exact .inr (List.mem_cons_of_mem _ h1)
theorem Zf {l:List Int}{above:Int}(h:(nextL l above).2=true):(nextL l above).1∈l/\above<(nextL l above).1:=by
 obtain⟨h1,h2⟩:=Xy l above (0,false) (fun h=>by cases h)
 refine⟨?_,h2 h⟩
 rcases h1 with h1|h1
 ·unfold nextL at h;rw[h1]at h;cases h
 ·exact h1
theorem qYy {l:List Int}{above lo hi:Int}(hl:∀ x∈l,lo<=x/\x<=hi)(h0:lo<=0)(h1:0<=hi):lo<=(nextL l above).1/\(nextL l above).1<=hi:=by
 obtain⟨h2,_⟩:=Xy l above (0,false) (fun h=>by cases h)
 rcases h2 with h2|h2
 ·unfold nextL;rw[h2];exact⟨h0,h1⟩
 ·exact hl _ h2
theorem qYz {l:List Int}{x y:Int}(hx:x∈l)(h:x<y):cnt l y<cnt l x:=by
 unfold cnt
 induction l with
 |nil=>cases hx
 |cons z l ih=>
  have hle:(l.filter fun u=>decide (y<=u)).length<=(l.filter fun u=>decide (x<=u)).length:=by
   clear ih hx
   induction l with
   |nil=>simp
   |cons u l ih=>
    simp only[List.filter_cons]
    by_cases h1:y<=u
    ·have:x<=u:=by omega
     simp[h1,this];exact ih
    ·by_cases h2:x<=u
     ·simp[h1,h2];omega
     ·simp[h1,h2];exact ih
  simp only[List.filter_cons]
  rcases List.mem_cons.1 hx with rfl|hx
  ·have:¬y<=x:=by omega
   simp[this];omega
  ·have:=ih hx
   by_cases h1:y<=z
   ·have:x<=z:=by omega
    simp[h1,this];omega
   ·by_cases h2:x<=z
    ·simp[h1,h2];omega
    ·simp[h1,h2];omega
theorem qV9 {l:List Int}{x:Int}(hx:x∈l):0<cnt l x:=by
 unfold cnt;exact List.length_pos_of_mem (List.mem_filter.2 ⟨hx,by simp⟩)
theorem qY0 (l:List Int)(x:Int):cnt l x<=l.length:=List.length_filter_le _ _
theorem qY1 {l:List (Int×Int)}(h:Zm l):∀ x∈endsL l,0<=x/\x<=1099511627778:=fun x hx=>by
 unfold endsL at hx
 obtain⟨r,hr,hx⟩:=List.mem_flatMap.1 hx
 have:=h r hr
 simp at hx
 omega
theorem Xz (l:List (Int×Int)):(endsL l).length=2*l.length:=by
 unfold endsL;rw[List.length_flatMap];simp[List.map_const'];omega
theorem qWa (a b:List (Int×Int))(how:Int)(va vb:Value)(w:World)(ha:SlP w w.heap.size 2 RuE va a)(hb:SlP w w.heap.size 2 RuE vb b)(hN:a.length<=100000)(hN':b.length<=100000)(hR:Zm a)(hR':Zm b)(hh:how=0∨how=1∨how=2) :
  Calls Tryz.prog 188 #[va,vb,.int .i64 how] w (RetO w 176 2 (fun _=>RuE) (byL a b how)):=by
 have hps:∀ x∈endsL a++endsL b,0<=x/\x<=1099511627778:=fun x hx=>by
  rcases List.mem_append.1 hx with h|h
  ·exact qY1 hR x h
  ·exact qY1 hR' x h
 have hla:=Xz a
 have hlb:=Xz b
 have HLE:Hid ((endsL a).length+(endsL b).length<=Few):=by unfold Hid Few;omega
 have hpl:Hid ((endsL a++endsL b).length<=400000):=by unfold Hid;simp;omega
 clear hla hlb
 go_enter Tryz.func188,Tryz.ntmps188
 go_wp2_with fail
 refine (JU a va _ ha (by omega) hR).mono ?_
 rintro e w1 ⟨v1,rfl,ho1,hb1⟩
 have hs1:=hb1.size
 go_wp2_with fail
 refine (JU b vb _ (hb.imp hb1 hs1 fun _ _ _ h=>h) (by omega) hR').mono ?_
 rintro e w2 ⟨v2,rfl,ho2,hb2⟩
 have hs2:=hb2.size
 go_wp2_with (at_builtin;refine Ql rfl (.tmp 17) (.tmp 19) _ rfl VQ (by decide) (by decide) (fun _ _ h=>h.one) rfl (ho1.grow hb2) rfl (ho2.sl (by have:=HLE.out;unfold Few at this;unfold Big;omega)) HLE.out (by omega) ?_;intro vp w3 ho3 hb3 _)
 have hB3:Below w.heap.size w w3:=(hb1.trans (hb2.mono hs1)).trans hb3
 have hs3:=hb3.size
 have hby:byL a b how=byGo a b how (endsL a++endsL b) ((endsL a++endsL b).length+1) (nextL (endsL a++endsL b) 0) []:=rfl
 generalize hpsd:endsL a++endsL b=ps at *
 have hsp:=ho3.sl (by have:=hpl.out;unfold Big;omega)
 have HY:=hid hby
 have ha3:=ha.imp hB3 (by omega:w.heap.size<=w3.heap.size) fun _ _ _ h=>h
 have hb3':=hb.imp hB3 (by omega:w.heap.size<=w3.heap.size) fun _ _ _ h=>h
 have hbd:∀ x,0<=(nextL ps x).1/\(nextL ps x).1<=1099511627778:=fun x=>qYy hps (by omega) (by omega)
 have HM:∀ x,x∈ps->∀ n,(cnt ps x<=n+1)->(nextL ps x).2=true->(nextL ps x).1∈ps/\cnt ps (nextL ps x).1<=n:=fun x hx n hc h=>⟨(Zf h).1,by have:=qYz hx (Zf h).2;omega⟩
 have HM0:(nextL ps 0).2=true->(nextL ps 0).1∈ps/\cnt ps (nextL ps 0).1<=ps.length+1:=fun h=>⟨(Zf h).1,by have:=qY0 ps (nextL ps 0).1;omega⟩
 clear hby hps ho1 ho2 hpsd HLE ho3
 have HBD:=hid hbd
 have HMH:=hid HM
 have HM0H:=hid HM0
 clear hbd HM HM0
 refine (Zo ps 0 vp w3 _ hsp).mono ?_
 rintro e wx ⟨rfl,rfl⟩
 go_wp2_with fail
 go_loopg [8,9,10] (ps.length+1) (fun n vo vx vk wr=>∃ (outL:List (Int×Int)) (x:Int) (k:Bool),OwnP wr w3.heap.size 176 2 RuE vo outL/\vx=.int .i64 x/\vk=.bool k/\0<=x/\x<=1099511627778/\Below w3.heap.size w3 wr /\
  Hid (byGo a b how ps n (x,k) outL=byL a b how)/\Hid (k=true->x∈ps/\cnt ps x<=n)/\Hid (outL.length+n<=ps.length+1))
 case atStart=>exact⟨[],_,_,OwnP.nil,rfl,rfl,(HBD.out 0).1,(HBD.out 0).2,Below.refl _ _,HY.out.symm,HM0H.out,by unfold Hid;simp⟩
 case round=>
  obtain⟨outL,x,k,hown,rfl,rfl,hx0,hx1,hbr,hrel,hmem,hlen⟩:=hrel
  have hsz:=hbr.size
  cases k
  ·have hr:=hrel.out
   rw[Jc]at hr
   have HR:=hid hr
   clear hr
   go_wp2_with fail
   go_ret
   exact⟨_,rfl,by rw[←HR.out];exact hown.mono (by omega),hB3.trans (hbr.mono (by omega))⟩
  ·obtain⟨n,rfl⟩:∃ n,gk=n+1:=⟨gk-1,by have:=hmem.out rfl;have:=qV9 this.1;omega⟩
   have HMM:=hid (hmem.out rfl)
   have HI:Hid (byGo a b how ps n (nextL ps x) (if inn how (hasL a x) (hasL b x) then byOut outL x (nextL ps x).1 else outL)=byL a b how):=hrel.out
   have har:=ha3.imp hbr (Nat.le_refl _) fun _ _ _ h=>h
   have hbr':=hb3'.imp hbr (Nat.le_refl _) fun _ _ _ h=>h
   have hpr:=hsp.imp hbr (Nat.le_refl _) fun _ _ _ h=>h
   have hn0:=(HBD.out x).1
   have hn1:=(HBD.out x).2
   go_wp2_with fail
   refine (Zo ps x vp _ _ hpr).mono ?_
   rintro e wx ⟨rfl,rfl⟩
   go_wp2_with fail
   refine (Jb a x va _ _ har).mono ?_
   rintro e wx ⟨rfl,rfl⟩
   go_wp2_with fail
   refine (Jb b x vb _ _ hbr').mono ?_
   rintro e wx ⟨rfl,rfl⟩
   go_upto_region 7 with (fail)
   have JN:Hid (RuE (x,(nextL ps x).1-1) [.int .i64 x,.int .i64 ((nextL ps x).1-1)]):=⟨rfl,⟨by omega,by omega⟩,⟨by show _<=(nextL ps x).1-1;omega,by show (nextL ps x).1-1<=_;omega⟩⟩
   have HNX:Hid ((nextL ps x).2=true->(nextL ps x).1∈ps/\cnt ps (nextL ps x).1<=n):=fun h=>HMH.out x HMM.out.1 n HMM.out.2 h
   have HL:Hid (outL.length + [(x,(nextL ps x).1-1)].length<=Few):=by have:=hlen.out;have:=hpl.out;unfold Hid Few;simp;omega
   have hob:outL.length<=400001:=by have:=hlen.out;have:=hpl.out;omega
   generalize hasL a x=p at *
   generalize hasL b x=q at *
   cases p<;>cases q<;>rcases hh with rfl|rfl|rfl
   ·go_wp2_with fail
    go_roundg n
    case measure=>omega
    case rel=>exact⟨outL,_,_,hown,rfl,rfl,HBD.out x |>.1,HBD.out x |>.2,hbr,by have:=HI.out;rw[if_neg (by decide)]at this;exact this,HNX.out,by have:=hlen.out;unfold Hid;omega⟩
   ·go_wp2_with fail
    go_roundg n
    case measure=>omega
    case rel=>exact⟨outL,_,_,hown,rfl,rfl,HBD.out x |>.1,HBD.out x |>.2,hbr,by have:=HI.out;rw[if_neg (by decide)]at this;exact this,HNX.out,by have:=hlen.out;unfold Hid;omega⟩
   ·go_wp2_with fail
    go_roundg n
    case measure=>omega
    case rel=>exact⟨outL,_,_,hown,rfl,rfl,HBD.out x |>.1,HBD.out x |>.2,hbr,by have:=HI.out;rw[if_neg (by decide)]at this;exact this,HNX.out,by have:=hlen.out;unfold Hid;omega⟩
   ·rcases Nat.eq_zero_or_pos outL.length with hz|hz
    ·obtain rfl:outL=[]:=List.eq_nil_of_length_eq_zero hz
     have HO:Hid (byOut [] x (nextL ps x).1=[]++[(x,(nextL ps x).1-1)]):=rfl
     obtain⟨A8,c8,rfl⟩:=hown.shape
     clear hz
     simp only[List.length_nil]at hown HL ⊢
     go_wp2_with (at_builtin;with_reducible refine Ql rfl (.tmp 83) (.tmp 88) _ rfl Yk (by decide) (by decide) (fun _ _ h=>h.one) rfl (hown.alloc _) rfl (SlP.one (x:=(x,(nextL ps x).1-1)) JN.out rfl _ rfl) HL.out (by rw[World.size_alloc];omega) ?_;intro v1 w1 hown1 hb1 _)
     go_roundg n
     case measure=>omega
     case rel=>exact⟨[]++[(x,(nextL ps x).1-1)],_,_,hown1,rfl,rfl,HBD.out x |>.1,HBD.out x |>.2,(hbr.alloc hsz _).trans hb1,by have:=HI.out;rw[if_pos (by decide),HO.out]at this;exact this,HNX.out,by have:=hlen.out;unfold Hid;simp at this ⊢;omega⟩
    obtain⟨r,hr⟩:∃ r,outL[outL.length-1]?=some r:=⟨_,List.getElem?_eq_getElem (by omega)⟩
    obtain⟨g,cap,rfl,hg1,hg2,c0,c1,hfz,hset⟩:=hown.setRun hr (z:=(nextL ps x).1-1) ⟨by omega,by omega⟩
    have hfz1:=hfz ((outL.length-1)*2+1)
    have HBO:Hid (byOut outL x (nextL ps x).1=if r.2=x-1 then outL.set (outL.length-1) (r.1,(nextL ps x).1-1) else outL++[(x,(nextL ps x).1-1)]):=by
     unfold Hid byOut;rw[List.getLast?_eq_getElem?,hr]
    clear hr hfz
    by_cases hq:r.2=x-1
    ·have HO:Hid (byOut outL x (nextL ps x).1=outL.set (outL.length-1) (r.1,(nextL ps x).1-1)):=by unfold Hid;rw[HBO.out,if_pos hq]
     have hq':(r.2==x-1)=true:=by simpa using hq
     have HQ:=hid hq
     have HS:=hid hset
     clear hq hset
     go_wp2_with fail
     go_roundg n
     case measure=>omega
     case rel=>exact⟨outL.set (outL.length-1) (r.1,(nextL ps x).1-1),_,_,HS.out,rfl,rfl,HBD.out x |>.1,HBD.out x |>.2,hbr.setCell (by exact hg1) _,by have:=HI.out;rw[if_pos (by decide),HO.out]at this;exact this,HNX.out,by have:=hlen.out;unfold Hid;rw[List.length_set];omega⟩
    ·have HO:Hid (byOut outL x (nextL ps x).1=outL++[(x,(nextL ps x).1-1)]):=by unfold Hid;rw[HBO.out,if_neg hq]
     have hq':(r.2==x-1)=false:=by simpa using hq
     have HQ:=hid hq
     clear hq hset
     go_wp2_with (at_builtin;with_reducible refine Ql rfl (.tmp 83) (.tmp 88) _ rfl Yk (by decide) (by decide) (fun _ _ h=>h.one) rfl (hown.alloc _) rfl (SlP.one (x:=(x,(nextL ps x).1-1)) JN.out rfl _ rfl) HL.out (by rw[World.size_alloc];omega) ?_;intro v1 w1 hown1 hb1 _)
     go_roundg n
     case measure=>omega
     case rel=>exact⟨outL++[(x,(nextL ps x).1-1)],_,_,hown1,rfl,rfl,HBD.out x |>.1,HBD.out x |>.2,(hbr.alloc hsz _).trans hb1,by have:=HI.out;rw[if_pos (by decide),HO.out]at this;exact this,HNX.out,by have:=hlen.out;unfold Hid;simp;omega⟩
   ·go_wp2_with fail
    go_roundg n
    case measure=>omega
    case rel=>exact⟨outL,_,_,hown,rfl,rfl,HBD.out x |>.1,HBD.out x |>.2,hbr,by have:=HI.out;rw[if_neg (by decide)]at this;exact this,HNX.out,by have:=hlen.out;unfold Hid;omega⟩
   ·go_wp2_with fail
    go_roundg n
    case measure=>omega
    case rel=>exact⟨outL,_,_,hown,rfl,rfl,HBD.out x |>.1,HBD.out x |>.2,hbr,by have:=HI.out;rw[if_neg (by decide)]at this;exact this,HNX.out,by have:=hlen.out;unfold Hid;omega⟩
   ·rcases Nat.eq_zero_or_pos outL.length with hz|hz
    ·obtain rfl:outL=[]:=List.eq_nil_of_length_eq_zero hz
     have HO:Hid (byOut [] x (nextL ps x).1=[]++[(x,(nextL ps x).1-1)]):=rfl
     obtain⟨A8,c8,rfl⟩:=hown.shape
     clear hz
     simp only[List.length_nil]at hown HL ⊢
     go_wp2_with (at_builtin;with_reducible refine Ql rfl (.tmp 83) (.tmp 88) _ rfl Yk (by decide) (by decide) (fun _ _ h=>h.one) rfl (hown.alloc _) rfl (SlP.one (x:=(x,(nextL ps x).1-1)) JN.out rfl _ rfl) HL.out (by rw[World.size_alloc];omega) ?_;intro v1 w1 hown1 hb1 _)
     go_roundg n
     case measure=>omega
     case rel=>exact⟨[]++[(x,(nextL ps x).1-1)],_,_,hown1,rfl,rfl,HBD.out x |>.1,HBD.out x |>.2,(hbr.alloc hsz _).trans hb1,by have:=HI.out;rw[if_pos (by decide),HO.out]at this;exact this,HNX.out,by have:=hlen.out;unfold Hid;simp at this ⊢;omega⟩
    obtain⟨r,hr⟩:∃ r,outL[outL.length-1]?=some r:=⟨_,List.getElem?_eq_getElem (by omega)⟩
    obtain⟨g,cap,rfl,hg1,hg2,c0,c1,hfz,hset⟩:=hown.setRun hr (z:=(nextL ps x).1-1) ⟨by omega,by omega⟩
    have hfz1:=hfz ((outL.length-1)*2+1)
    have HBO:Hid (byOut outL x (nextL ps x).1=if r.2=x-1 then outL.set (outL.length-1) (r.1,(nextL ps x).1-1) else outL++[(x,(nextL ps x).1-1)]):=by
     unfold Hid byOut;rw[List.getLast?_eq_getElem?,hr]
    clear hr hfz
    by_cases hq:r.2=x-1
    ·have HO:Hid (byOut outL x (nextL ps x).1=outL.set (outL.length-1) (r.1,(nextL ps x).1-1)):=by unfold Hid;rw[HBO.out,if_pos hq]
     have hq':(r.2==x-1)=true:=by simpa using hq
     have HQ:=hid hq
     have HS:=hid hset
     clear hq hset
     go_wp2_with fail
     go_roundg n
     case measure=>omega
     case rel=>exact⟨outL.set (outL.length-1) (r.1,(nextL ps x).1-1),_,_,HS.out,rfl,rfl,HBD.out x |>.1,HBD.out x |>.2,hbr.setCell (by exact hg1) _,by have:=HI.out;rw[if_pos (by decide),HO.out]at this;exact this,HNX.out,by have:=hlen.out;unfold Hid;rw[List.length_set];omega⟩
    ·have HO:Hid (byOut outL x (nextL ps x).1=outL++[(x,(nextL ps x).1-1)]):=by unfold Hid;rw[HBO.out,if_neg hq]
     have hq':(r.2==x-1)=false:=by simpa using hq
     have HQ:=hid hq
     clear hq hset
     go_wp2_with (at_builtin;with_reducible refine Ql rfl (.tmp 83) (.tmp 88) _ rfl Yk (by decide) (by decide) (fun _ _ h=>h.one) rfl (hown.alloc _) rfl (SlP.one (x:=(x,(nextL ps x).1-1)) JN.out rfl _ rfl) HL.out (by rw[World.size_alloc];omega) ?_;intro v1 w1 hown1 hb1 _)
     go_roundg n
     case measure=>omega
     case rel=>exact⟨outL++[(x,(nextL ps x).1-1)],_,_,hown1,rfl,rfl,HBD.out x |>.1,HBD.out x |>.2,(hbr.alloc hsz _).trans hb1,by have:=HI.out;rw[if_pos (by decide),HO.out]at this;exact this,HNX.out,by have:=hlen.out;unfold Hid;simp;omega⟩
   ·go_wp2_with fail
    go_roundg n
    case measure=>omega
    case rel=>exact⟨outL,_,_,hown,rfl,rfl,HBD.out x |>.1,HBD.out x |>.2,hbr,by have:=HI.out;rw[if_neg (by decide)]at this;exact this,HNX.out,by have:=hlen.out;unfold Hid;omega⟩
   ·rcases Nat.eq_zero_or_pos outL.length with hz|hz
    ·obtain rfl:outL=[]:=List.eq_nil_of_length_eq_zero hz
     have HO:Hid (byOut [] x (nextL ps x).1=[]++[(x,(nextL ps x).1-1)]):=rfl
     obtain⟨A8,c8,rfl⟩:=hown.shape
     clear hz
     simp only[List.length_nil]at hown HL ⊢
     go_wp2_with (at_builtin;with_reducible refine Ql rfl (.tmp 83) (.tmp 88) _ rfl Yk (by decide) (by decide) (fun _ _ h=>h.one) rfl (hown.alloc _) rfl (SlP.one (x:=(x,(nextL ps x).1-1)) JN.out rfl _ rfl) HL.out (by rw[World.size_alloc];omega) ?_;intro v1 w1 hown1 hb1 _)
     go_roundg n
     case measure=>omega
     case rel=>exact⟨[]++[(x,(nextL ps x).1-1)],_,_,hown1,rfl,rfl,HBD.out x |>.1,HBD.out x |>.2,(hbr.alloc hsz _).trans hb1,by have:=HI.out;rw[if_pos (by decide),HO.out]at this;exact this,HNX.out,by have:=hlen.out;unfold Hid;simp at this ⊢;omega⟩
    obtain⟨r,hr⟩:∃ r,outL[outL.length-1]?=some r:=⟨_,List.getElem?_eq_getElem (by omega)⟩
    obtain⟨g,cap,rfl,hg1,hg2,c0,c1,hfz,hset⟩:=hown.setRun hr (z:=(nextL ps x).1-1) ⟨by omega,by omega⟩
    have hfz1:=hfz ((outL.length-1)*2+1)
    have HBO:Hid (byOut outL x (nextL ps x).1=if r.2=x-1 then outL.set (outL.length-1) (r.1,(nextL ps x).1-1) else outL++[(x,(nextL ps x).1-1)]):=by
     unfold Hid byOut;rw[List.getLast?_eq_getElem?,hr]
    clear hr hfz
    by_cases hq:r.2=x-1
    ·have HO:Hid (byOut outL x (nextL ps x).1=outL.set (outL.length-1) (r.1,(nextL ps x).1-1)):=by unfold Hid;rw[HBO.out,if_pos hq]
     have hq':(r.2==x-1)=true:=by simpa using hq
     have HQ:=hid hq
     have HS:=hid hset
     clear hq hset
     go_wp2_with fail
     go_roundg n
     case measure=>omega
     case rel=>exact⟨outL.set (outL.length-1) (r.1,(nextL ps x).1-1),_,_,HS.out,rfl,rfl,HBD.out x |>.1,HBD.out x |>.2,hbr.setCell (by exact hg1) _,by have:=HI.out;rw[if_pos (by decide),HO.out]at this;exact this,HNX.out,by have:=hlen.out;unfold Hid;rw[List.length_set];omega⟩
    ·have HO:Hid (byOut outL x (nextL ps x).1=outL++[(x,(nextL ps x).1-1)]):=by unfold Hid;rw[HBO.out,if_neg hq]
     have hq':(r.2==x-1)=false:=by simpa using hq
     have HQ:=hid hq
     clear hq hset
     go_wp2_with (at_builtin;with_reducible refine Ql rfl (.tmp 83) (.tmp 88) _ rfl Yk (by decide) (by decide) (fun _ _ h=>h.one) rfl (hown.alloc _) rfl (SlP.one (x:=(x,(nextL ps x).1-1)) JN.out rfl _ rfl) HL.out (by rw[World.size_alloc];omega) ?_;intro v1 w1 hown1 hb1 _)
     go_roundg n
     case measure=>omega
     case rel=>exact⟨outL++[(x,(nextL ps x).1-1)],_,_,hown1,rfl,rfl,HBD.out x |>.1,HBD.out x |>.2,(hbr.alloc hsz _).trans hb1,by have:=HI.out;rw[if_pos (by decide),HO.out]at this;exact this,HNX.out,by have:=hlen.out;unfold Hid;simp;omega⟩
   ·rcases Nat.eq_zero_or_pos outL.length with hz|hz
    ·obtain rfl:outL=[]:=List.eq_nil_of_length_eq_zero hz
     have HO:Hid (byOut [] x (nextL ps x).1=[]++[(x,(nextL ps x).1-1)]):=rfl
     obtain⟨A8,c8,rfl⟩:=hown.shape
     clear hz
     simp only[List.length_nil]at hown HL ⊢
     go_wp2_with (at_builtin;with_reducible refine Ql rfl (.tmp 83) (.tmp 88) _ rfl Yk (by decide) (by decide) (fun _ _ h=>h.one) rfl (hown.alloc _) rfl (SlP.one (x:=(x,(nextL ps x).1-1)) JN.out rfl _ rfl) HL.out (by rw[World.size_alloc];omega) ?_;intro v1 w1 hown1 hb1 _)
     go_roundg n
     case measure=>omega
     case rel=>exact⟨[]++[(x,(nextL ps x).1-1)],_,_,hown1,rfl,rfl,HBD.out x |>.1,HBD.out x |>.2,(hbr.alloc hsz _).trans hb1,by have:=HI.out;rw[if_pos (by decide),HO.out]at this;exact this,HNX.out,by have:=hlen.out;unfold Hid;simp at this ⊢;omega⟩
    obtain⟨r,hr⟩:∃ r,outL[outL.length-1]?=some r:=⟨_,List.getElem?_eq_getElem (by omega)⟩
    obtain⟨g,cap,rfl,hg1,hg2,c0,c1,hfz,hset⟩:=hown.setRun hr (z:=(nextL ps x).1-1) ⟨by omega,by omega⟩
    have hfz1:=hfz ((outL.length-1)*2+1)
    have HBO:Hid (byOut outL x (nextL ps x).1=if r.2=x-1 then outL.set (outL.length-1) (r.1,(nextL ps x).1-1) else outL++[(x,(nextL ps x).1-1)]):=by
     unfold Hid byOut;rw[List.getLast?_eq_getElem?,hr]
    clear hr hfz
    by_cases hq:r.2=x-1
    ·have HO:Hid (byOut outL x (nextL ps x).1=outL.set (outL.length-1) (r.1,(nextL ps x).1-1)):=by unfold Hid;rw[HBO.out,if_pos hq]
     have hq':(r.2==x-1)=true:=by simpa using hq
     have HQ:=hid hq
     have HS:=hid hset
     clear hq hset
     go_wp2_with fail
     go_roundg n
     case measure=>omega
     case rel=>exact⟨outL.set (outL.length-1) (r.1,(nextL ps x).1-1),_,_,HS.out,rfl,rfl,HBD.out x |>.1,HBD.out x |>.2,hbr.setCell (by exact hg1) _,by have:=HI.out;rw[if_pos (by decide),HO.out]at this;exact this,HNX.out,by have:=hlen.out;unfold Hid;rw[List.length_set];omega⟩
    ·have HO:Hid (byOut outL x (nextL ps x).1=outL++[(x,(nextL ps x).1-1)]):=by unfold Hid;rw[HBO.out,if_neg hq]
     have hq':(r.2==x-1)=false:=by simpa using hq
     have HQ:=hid hq
     clear hq hset
     go_wp2_with (at_builtin;with_reducible refine Ql rfl (.tmp 83) (.tmp 88) _ rfl Yk (by decide) (by decide) (fun _ _ h=>h.one) rfl (hown.alloc _) rfl (SlP.one (x:=(x,(nextL ps x).1-1)) JN.out rfl _ rfl) HL.out (by rw[World.size_alloc];omega) ?_;intro v1 w1 hown1 hb1 _)
     go_roundg n
     case measure=>omega
     case rel=>exact⟨outL++[(x,(nextL ps x).1-1)],_,_,hown1,rfl,rfl,HBD.out x |>.1,HBD.out x |>.2,(hbr.alloc hsz _).trans hb1,by have:=HI.out;rw[if_pos (by decide),HO.out]at this;exact this,HNX.out,by have:=hlen.out;unfold Hid;simp;omega⟩
   ·rcases Nat.eq_zero_or_pos outL.length with hz|hz
    ·obtain rfl:outL=[]:=List.eq_nil_of_length_eq_zero hz
     have HO:Hid (byOut [] x (nextL ps x).1=[]++[(x,(nextL ps x).1-1)]):=rfl
     obtain⟨A8,c8,rfl⟩:=hown.shape
     clear hz
     simp only[List.length_nil]at hown HL ⊢
     go_wp2_with (at_builtin;with_reducible refine Ql rfl (.tmp 83) (.tmp 88) _ rfl Yk (by decide) (by decide) (fun _ _ h=>h.one) rfl (hown.alloc _) rfl (SlP.one (x:=(x,(nextL ps x).1-1)) JN.out rfl _ rfl) HL.out (by rw[World.size_alloc];omega) ?_;intro v1 w1 hown1 hb1 _)
     go_roundg n
     case measure=>omega
     case rel=>exact⟨[]++[(x,(nextL ps x).1-1)],_,_,hown1,rfl,rfl,HBD.out x |>.1,HBD.out x |>.2,(hbr.alloc hsz _).trans hb1,by have:=HI.out;rw[if_pos (by decide),HO.out]at this;exact this,HNX.out,by have:=hlen.out;unfold Hid;simp at this ⊢;omega⟩
    obtain⟨r,hr⟩:∃ r,outL[outL.length-1]?=some r:=⟨_,List.getElem?_eq_getElem (by omega)⟩
    obtain⟨g,cap,rfl,hg1,hg2,c0,c1,hfz,hset⟩:=hown.setRun hr (z:=(nextL ps x).1-1) ⟨by omega,by omega⟩
    have hfz1:=hfz ((outL.length-1)*2+1)
    have HBO:Hid (byOut outL x (nextL ps x).1=if r.2=x-1 then outL.set (outL.length-1) (r.1,(nextL ps x).1-1) else outL++[(x,(nextL ps x).1-1)]):=by
     unfold Hid byOut;rw[List.getLast?_eq_getElem?,hr]
    clear hr hfz
    by_cases hq:r.2=x-1
    ·have HO:Hid (byOut outL x (nextL ps x).1=outL.set (outL.length-1) (r.1,(nextL ps x).1-1)):=by unfold Hid;rw[HBO.out,if_pos hq]
     have hq':(r.2==x-1)=true:=by simpa using hq
     have HQ:=hid hq
     have HS:=hid hset
     clear hq hset
     go_wp2_with fail
     go_roundg n
     case measure=>omega
     case rel=>exact⟨outL.set (outL.length-1) (r.1,(nextL ps x).1-1),_,_,HS.out,rfl,rfl,HBD.out x |>.1,HBD.out x |>.2,hbr.setCell (by exact hg1) _,by have:=HI.out;rw[if_pos (by decide),HO.out]at this;exact this,HNX.out,by have:=hlen.out;unfold Hid;rw[List.length_set];omega⟩
    ·have HO:Hid (byOut outL x (nextL ps x).1=outL++[(x,(nextL ps x).1-1)]):=by unfold Hid;rw[HBO.out,if_neg hq]
     have hq':(r.2==x-1)=false:=by simpa using hq
     have HQ:=hid hq
     clear hq hset
     go_wp2_with (at_builtin;with_reducible refine Ql rfl (.tmp 83) (.tmp 88) _ rfl Yk (by decide) (by decide) (fun _ _ h=>h.one) rfl (hown.alloc _) rfl (SlP.one (x:=(x,(nextL ps x).1-1)) JN.out rfl _ rfl) HL.out (by rw[World.size_alloc];omega) ?_;intro v1 w1 hown1 hb1 _)
     go_roundg n
     case measure=>omega
     case rel=>exact⟨outL++[(x,(nextL ps x).1-1)],_,_,hown1,rfl,rfl,HBD.out x |>.1,HBD.out x |>.2,(hbr.alloc hsz _).trans hb1,by have:=HI.out;rw[if_pos (by decide),HO.out]at this;exact this,HNX.out,by have:=hlen.out;unfold Hid;simp;omega⟩
   ·go_wp2_with fail
    go_roundg n
    case measure=>omega
    case rel=>exact⟨outL,_,_,hown,rfl,rfl,HBD.out x |>.1,HBD.out x |>.2,hbr,by have:=HI.out;rw[if_neg (by decide)]at this;exact this,HNX.out,by have:=hlen.out;unfold Hid;omega⟩
def ofOut (out:List (Int×Int))(x:Int):List (Int×Int):=
 match out.getLast? with
 |some r=>if r.2=x-1 then out.set (out.length-1) (r.1,x) else out++[(x,x)]
 |none=>[(x,x)]
def ofGo (ps:List Int):Nat->Int×Bool->List (Int×Int)->List (Int×Int)
 |0,_,out=>out
 |n+1,s,out=>if s.2 then ofGo ps n (nextL ps s.1) (ofOut out s.1) else out
def ofL (ps:List Int):List (Int×Int):=ofGo ps (ps.length+1) (nextL ps 0) []
theorem qKt (ps:List Int)(n:Nat)(x:Int)(out:List (Int×Int)):ofGo ps n (x,false) out=out:=by
 cases n<;>simp[ofGo]
theorem qWb (out:List (Int×Int))(x:Int):(ofOut out x).length<=out.length+1:=by
 unfold ofOut
 cases h:out.getLast? with
 |none=>simp
 |some r=>dsimp only;split<;>simp
theorem qY2 (ps:List Int):∀ (n:Nat) (s:Int×Bool) (out:List (Int×Int)),(ofGo ps n s out).length<=out.length+n
 |0,s,out=>by simp[ofGo]
 |n+1,s,out=>by
  rw[ofGo]
  split
  ·have:=qY2 ps n (nextL ps s.1) (ofOut out s.1);have:=qWb out s.1;omega
  ·omega
theorem VT (ps:List Int):(ofL ps).length<=ps.length+1:=by have:=qY2 ps (ps.length+1) (nextL ps 0) [];simpa[ofL] using this
theorem qWc (ps:List Int)(vp:Value)(w:World)(hsp:SlP w w.heap.size 1 InE vp ps)(hN:ps.length<=400000)(hps:∀ x∈ps,0<=x/\x<=1099511627778) :
  Calls Tryz.prog 151 #[vp] w (RetO w 176 2 (fun _=>RuE) (ofL ps)):=by
 have HY:Hid (ofL ps=ofGo ps (ps.length+1) (nextL ps 0) []):=rfl
 have HBD:Hid (∀ x,0<=(nextL ps x).1/\(nextL ps x).1<=1099511627778):=fun x=>qYy hps (by omega) (by omega)
 have HMH:Hid (∀ x,x∈ps->∀ n,(cnt ps x<=n+1)->(nextL ps x).2=true->(nextL ps x).1∈ps/\cnt ps (nextL ps x).1<=n):=fun x hx n hc h=>⟨(Zf h).1,by have:=qYz hx (Zf h).2;omega⟩
 have HM0H:Hid ((nextL ps 0).2=true->(nextL ps 0).1∈ps/\cnt ps (nextL ps 0).1<=ps.length+1):=fun h=>⟨(Zf h).1,by have:=qY0 ps (nextL ps 0).1;omega⟩
 clear hps
 go_enter Tryz.func151,Tryz.ntmps151
 go_wp2_with (go_at_call 189;with_reducible refine (Zo ps 0 vp w _ hsp).mono ?_;rintro e wx ⟨rfl,rfl⟩)
 go_loopg [3,4,5] (ps.length+1) (fun n vo vx vk wr=>∃ (outL:List (Int×Int)) (x:Int) (k:Bool),OwnP wr w.heap.size 176 2 RuE vo outL/\vx=.int .i64 x/\vk=.bool k/\0<=x/\x<=1099511627778/\Below w.heap.size w wr /\
  Hid (ofGo ps n (x,k) outL=ofL ps)/\Hid (k=true->x∈ps/\cnt ps x<=n)/\Hid (outL.length+n<=ps.length+1))
 case atStart=>exact⟨[],_,_,OwnP.nil,rfl,rfl,(HBD.out 0).1,(HBD.out 0).2,Below.refl _ _,HY.out.symm,HM0H.out,by unfold Hid;simp⟩
 case round=>
  obtain⟨outL,x,k,hown,rfl,rfl,hx0,hx1,hbr,hrel,hmem,hlen⟩:=hrel
  have hsz:=hbr.size
  cases k
  ·have hr:=hrel.out
   rw[qKt]at hr
   have HR:=hid hr
   clear hr
   go_wp2_with fail
   go_ret
   exact⟨_,rfl,by rw[←HR.out];exact hown,hbr⟩
  ·obtain⟨n,rfl⟩:∃ n,gk=n+1:=⟨gk-1,by have:=hmem.out rfl;have:=qV9 this.1;omega⟩
   have HMM:=hid (hmem.out rfl)
   have HI:Hid (ofGo ps n (nextL ps x) (ofOut outL x)=ofL ps):=hrel.out
   have HPR:Hid (∀ w',Below w.heap.size w w'->SlP w' w.heap.size 1 InE vp ps):=fun w' hb'=>hsp.imp hb' (Nat.le_refl _) fun _ _ _ h=>h
   have JN:Hid (RuE (x,x) [.int .i64 x,.int .i64 x]):=⟨rfl,⟨by omega,by omega⟩,⟨by show _<=x;omega,by show x<=_;omega⟩⟩
   have HNX:Hid ((nextL ps x).2=true->(nextL ps x).1∈ps/\cnt ps (nextL ps x).1<=n):=fun h=>HMH.out x HMM.out.1 n HMM.out.2 h
   have HL:Hid (outL.length + [(x,x)].length<=Few):=by have:=hlen.out;unfold Hid Few;simp;omega
   have hob:outL.length<=400001:=by have:=hlen.out;omega
   rcases Nat.eq_zero_or_pos outL.length with hz|hz
   ·obtain rfl:outL=[]:=List.eq_nil_of_length_eq_zero hz
    have HO:Hid (ofOut [] x=[]++[(x,x)]):=rfl
    obtain⟨A8,c8,rfl⟩:=hown.shape
    clear hz
    simp only[List.length_nil]at hown ⊢
    have HL:Hid (([]:List (Int×Int)).length + [(x,x)].length<=Few):=by unfold Hid Few;simp
    go_wp2_with (first|(at_builtin;with_reducible refine Ql rfl (.tmp 34) (.tmp 38) _ rfl Yk (by decide) (by decide) (fun _ _ h=>h.one) rfl (hown.alloc _) rfl (SlP.one (x:=(x,x)) JN.out rfl _ rfl) HL.out (by rw[World.size_alloc];omega) ?_;intro v1 w1 hown1 hb1 _)|(go_at_call 189;with_reducible refine (Zo ps x vp _ _ (HPR.out _ ((hbr.alloc hsz _).trans hb1))).mono ?_;rintro e wx ⟨rfl,rfl⟩))
    go_roundg n
    case measure=>omega
    case rel=>exact⟨[]++[(x,x)],_,_,hown1,rfl,rfl,HBD.out x |>.1,HBD.out x |>.2,(hbr.alloc hsz _).trans hb1,by have:=HI.out;rw[HO.out]at this;exact this,HNX.out,by have:=hlen.out;unfold Hid;simp at this ⊢;omega⟩
   obtain⟨r,hr⟩:∃ r,outL[outL.length-1]?=some r:=⟨_,List.getElem?_eq_getElem (by omega)⟩
   obtain⟨g,cap,rfl,hg1,hg2,c0,c1,hfz,hset⟩:=hown.setRun hr (z:=x) ⟨by omega,by omega⟩
   have hfz1:=hfz ((outL.length-1)*2+1)
   have HBO:Hid (ofOut outL x=if r.2=x-1 then outL.set (outL.length-1) (r.1,x) else outL++[(x,x)]):=by
    unfold Hid ofOut;rw[List.getLast?_eq_getElem?,hr]
   clear hr hfz
   by_cases hq:r.2=x-1
   ·have HO:Hid (ofOut outL x=outL.set (outL.length-1) (r.1,x)):=by unfold Hid;rw[HBO.out,if_pos hq]
    have hq':(r.2==x-1)=true:=by simpa using hq
    have HQ:=hid hq
    have HS:=hid hset
    clear hq hset
    go_wp2_with (go_at_call 189;with_reducible refine (Zo ps x vp _ _ (HPR.out _ (hbr.setCell (by exact hg1) _))).mono ?_;rintro e wx ⟨rfl,rfl⟩)
    go_roundg n
    case measure=>omega
    case rel=>exact⟨outL.set (outL.length-1) (r.1,x),_,_,HS.out,rfl,rfl,HBD.out x |>.1,HBD.out x |>.2,hbr.setCell (by exact hg1) _,by have:=HI.out;rw[HO.out]at this;exact this,HNX.out,by have:=hlen.out;unfold Hid;rw[List.length_set];omega⟩
   ·have HO:Hid (ofOut outL x=outL++[(x,x)]):=by unfold Hid;rw[HBO.out,if_neg hq]
    have hq':(r.2==x-1)=false:=by simpa using hq
    have HQ:=hid hq
    clear hq hset
    go_wp2_with (first|(at_builtin;with_reducible refine Ql rfl (.tmp 34) (.tmp 38) _ rfl Yk (by decide) (by decide) (fun _ _ h=>h.one) rfl (hown.alloc _) rfl (SlP.one (x:=(x,x)) JN.out rfl _ rfl) HL.out (by rw[World.size_alloc];omega) ?_;intro v1 w1 hown1 hb1 _)|(go_at_call 189;with_reducible refine (Zo ps x vp _ _ (HPR.out _ ((hbr.alloc hsz _).trans hb1))).mono ?_;rintro e wx ⟨rfl,rfl⟩))
    go_roundg n
    case measure=>omega
    case rel=>exact⟨outL++[(x,x)],_,_,hown1,rfl,rfl,HBD.out x |>.1,HBD.out x |>.2,(hbr.alloc hsz _).trans hb1,by have:=HI.out;rw[HO.out]at this;exact this,HNX.out,by have:=hlen.out;unfold Hid;simp at this ⊢;omega⟩
theorem qWd (out:List (Int×Int))(x y:Int):(byOut out x y).length<=out.length+1:=by
 unfold byOut
 cases h:out.getLast? with
 |none=>simp
 |some r=>dsimp only;split<;>simp
theorem qY3 (a b:List (Int×Int))(how:Int)(ps:List Int):∀ (n:Nat) (s:Int×Bool) (out:List (Int×Int)),(byGo a b how ps n s out).length<=out.length+n
 |0,s,out=>by simp[byGo]
 |n+1,s,out=>by
  rw[byGo]
  split
  ·have h1:=qY3 a b how ps n (nextL ps s.1) (if inn how (hasL a s.1) (hasL b s.1) then byOut out s.1 (nextL ps s.1).1 else out)
   have h2:=qWd out s.1 (nextL ps s.1).1
   split at h1<;>rename_i hc
   ·rw[if_pos hc];omega
   ·rw[if_neg hc];omega
  ·omega
theorem JV (a b:List (Int×Int))(how:Int):(byL a b how).length<=2*a.length+2*b.length+1:=by
 have:=qY3 a b how (endsL a++endsL b) ((endsL a++endsL b).length+1) (nextL (endsL a++endsL b) 0) []
 have h1:=Xz a
 have h2:=Xz b
 simp at this
 unfold byL
 simp
 omega
def SpsOk (c:List Sp):Prop:=∀ s∈c,0<=s.fr/\s.fr<=1099511627777/\0<=s.hi/\s.hi<=1099511627777
theorem qY4 {c:List Sp}(h:SpsOk c)(dc:Int):Zm (partL c dc):=fun r hr=>by
 unfold partL at hr
 obtain⟨s,hs,rfl⟩:=List.mem_map.1 hr
 exact h s (List.mem_filter.1 hs).1
def XA (a b:List Sp)(how:Int)(k:Nat):List Sp:=(List.range k).flatMap fun (dc:Nat)=>QE (dc:Int) (byL (partL a dc) (partL b dc) how)
def ctxBy (a b:List Sp)(how:Int):List Sp:=XA a b how 4
theorem Zp (a b:List Sp)(how:Int):∀ k,(XA a b how k).length<=k*(2*a.length+2*b.length+1)
 |0=>by simp[XA]
 |k+1=>by
  have h:=Zp a b how k
  have h1:=JV (partL a k) (partL b k) how
  have h2:=QO a k
  have h3:=QO b k
  unfold XA at *
  rw[List.range_succ,List.flatMap_append,List.length_append,Nat.add_mul]
  simp only[List.flatMap_cons,List.flatMap_nil,List.append_nil,QE,List.length_map]at *
  omega
theorem qQs (a b:List Sp)(how:Int)(va vb:Value)(w:World)(ha:SlP w w.heap.size 3 SpE va a)(hb:SlP w w.heap.size 3 SpE vb b)(hN:a.length<=50000)(hN':b.length<=50000)(hR:SpsOk a)(hR':SpsOk b)(hh:how=0∨how=1∨how=2) :
  Calls Tryz.prog 149 #[va,vb,.int .i64 how] w (RetO w 45 3 (fun _=>SpE) (ctxBy a b how)):=by
 go_enter Tryz.func149,Tryz.ntmps149
 go_wp2_with fail
 go_loopw [7,9] (fun v i wr=>∃ k:Nat,k<=4/\i=.int .i64 k/\OwnP wr w.heap.size 45 3 SpE v (XA a b how k)/\Below w.heap.size w wr) (fun _ i _=>4-(intOf i).toNat)
 case atStart=>exact⟨0,Nat.zero_le _,rfl,OwnP.nil,Below.refl _ _⟩
 case round=>
  obtain⟨k,hk,rfl,hown,hbr⟩:=hrel
  have hsz:=hbr.size
  by_cases hlt:k<4
  ·have hpa:=QO a k
   have hpb:=QO b k
   have hl:=JV (partL a k) (partL b k) how
   have hcl:=Zp a b how k
   have HL:Hid ((XA a b how k).length+(QE (k:Int) (byL (partL a k) (partL b k) how)).length<=Few):=by
    have:k*(2*a.length+2*b.length+1)<=3*(2*a.length+2*b.length+1):=Nat.mul_le_mul_right _ (by omega)
    unfold Hid Few QE;rw[List.length_map];omega
   have HX:Hid (XA a b how (k+1)=XA a b how k++QE (k:Int) (byL (partL a k) (partL b k) how)):=by
    unfold Hid XA;rw[List.range_succ,List.flatMap_append];simp
   have HLL:=hid hl
   clear hcl hl
   go_wp2_with fail
   refine (Yx a k va wr (ha.imp hbr hsz fun _ _ _ h=>h) (by omega)).mono ?_
   rintro e w1 ⟨v1,rfl,ho1,hb1⟩
   have hs1:=hb1.size
   go_wp2_with fail
   refine (Yx b k vb w1 (hb.imp (hbr.trans (hb1.mono hsz)) (by omega) fun _ _ _ h=>h) (by omega)).mono ?_
   rintro e w2 ⟨v2,rfl,ho2,hb2⟩
   have hs2:=hb2.size
   have s1:=(ho1.grow hb2).sl (by unfold Big;omega)
   have s2:=ho2.sl (by unfold Big;omega)
   clear ho1 ho2
   go_wp2_with fail
   refine (qWa (partL a k) (partL b k) how v1 v2 w2 s1 s2 (by omega) (by omega) (qY4 hR k) (qY4 hR' k) hh).mono ?_
   rintro e w3 ⟨v3,rfl,ho3,hb3⟩
   have hs3:=hb3.size
   have s3:=ho3.sl (by have:=HLL.out;unfold Big;omega)
   clear ho3
   go_wp2_with fail
   refine (JB _ k v3 w3 s3 (by have:=HLL.out;omega) ⟨by omega,by omega⟩).mono ?_
   rintro e w4 ⟨v4,rfl,ho4,hb4⟩
   have hs4:=hb4.size
   have s4:=ho4.sl (by have:=HL.out;unfold Few at this;unfold Big;omega)
   have hB4:Below wr.heap.size wr w4:=((hb1.trans (hb2.mono hs1)).trans (hb3.mono (by omega))).trans (hb4.mono (by omega))
   clear ho4
   go_wp2_with (at_builtin;with_reducible refine Ql rfl (.tmp 12) (.tmp 22) _ rfl qQm (by decide) (by decide) (fun _ _ h=>h.one) rfl (hown.grow hB4) rfl s4 HL.out (by omega) ?_;intro v5 w5 hown5 hb5 _)
   go_roundw
   case rel=>exact⟨k+1,by omega,by go_num,by rw[HX.out];exact hown5,(hbr.trans (hB4.mono hsz)).trans hb5⟩
   case measure=>simp[intOf];omega
  ·obtain rfl:k=4:=by omega
   go_wp2_with fail
   go_ret
   exact⟨_,rfl,hown,hbr⟩
theorem YK (a b:List Sp)(va vb:Value)(w:World)(ha:SlP w w.heap.size 3 SpE va a)(hb:SlP w w.heap.size 3 SpE vb b)(hN:a.length<=50000)(hN':b.length<=50000)(hR:SpsOk a)(hR':SpsOk b) :
  Calls Tryz.prog 106 #[va,vb] w (RetO w 45 3 (fun _=>SpE) (ctxBy a b 0)):=by
 go_enter Tryz.func106,Tryz.ntmps106
 go_wp2_with fail
 refine (qQs a b 0 va vb w ha hb hN hN' hR hR' (.inl rfl)).mono ?_
 rintro e w1 ⟨v,rfl,h⟩
 go_wp2_with fail
 go_ret
 exact⟨v,rfl,h⟩
def numsL (l:List Dt)(dc:Int):List Int:=(l.filter fun d=>d.dc==dc).map fun d=>d.n
def Xi (l:List Dt)(k:Nat):List Sp:=(List.range k).flatMap fun (dc:Nat)=>QE (dc:Int) (ofL (numsL l dc))
def ctxOf (l:List Dt):List Sp:=Xi l 4
theorem Vf {c:List Dt}{k:Nat}{x:Dt}(h:c[k]?=some x)(dc:Int):numsL (c.take (k+1)) dc=numsL (c.take k) dc++(if x.dc=dc then [x.n] else []):=by
 unfold numsL
 rw[List.take_add_one,h]
 by_cases hd:x.dc=dc<;>simp[hd]
theorem ZY (c:List Dt)(dc:Int):(numsL c dc).length<=c.length:=by
 unfold numsL;rw[List.length_map];exact List.length_filter_le _ _
theorem Zq (l:List Dt):∀ k,(Xi l k).length<=k*(l.length+1)
 |0=>by simp[Xi]
 |k+1=>by
  have h:=Zq l k
  have h1:=VT (numsL l k)
  have h2:=ZY l k
  unfold Xi at *
  rw[List.range_succ,List.flatMap_append,List.length_append,Nat.add_mul]
  simp only[List.flatMap_cons,List.flatMap_nil,List.append_nil,QE,List.length_map]at *
  omega
theorem qWe (l:List Dt)(vl:Value)(w:World)(hl:SlP w w.heap.size 2 DtE vl l)(hN:l.length<=100000)(hR:∀ d∈l,0<=d.n/\d.n<=1099511627778) :
  Calls Tryz.prog 111 #[vl] w (RetO w 45 3 (fun _=>SpE) (ctxOf l)):=by
 obtain⟨A,n,rfl,b1,b2,b3⟩:=hl
 unfold Big at b2
 go_enter Tryz.func111,Tryz.ntmps111
 go_wp2_with fail
 go_loopw [3,7] (fun v i wr=>∃ k:Nat,k<=4/\i=.int .i64 k/\OwnP wr w.heap.size 45 3 SpE v (Xi l k)/\Below w.heap.size w wr) (fun _ i _=>4-(intOf i).toNat)
 case atStart=>exact⟨0,Nat.zero_le _,rfl,OwnP.nil,Below.refl _ _⟩
 case round=>
  obtain⟨k,hk,rfl,hown,hbr⟩:=hrel
  have hsz:=hbr.size
  by_cases hlt:k<4
  ·have HL:Hid ((Xi l k).length+(QE (k:Int) (ofL (numsL l k))).length<=Few):=by
    have h1:=VT (numsL l k)
    have h2:=ZY l k
    have hcl:=Zq l k
    have:k*(l.length+1)<=3*(l.length+1):=Nat.mul_le_mul_right _ (by omega)
    unfold Hid Few QE;rw[List.length_map];omega
   have HX:Hid (Xi l (k+1)=Xi l k++QE (k:Int) (ofL (numsL l k))):=by
    unfold Hid Xi;rw[List.range_succ,List.flatMap_append];simp
   have hlen:=ZY l k
   have hlt':decide ((k:Int)<4)=true:=by simp;omega
   go_wp2_with fail
   obtain⟨wo,rfl⟩:∃ wo:World,wo=wr:=⟨_,rfl⟩
   go_loopw [5,12] (fun v i wr=>∃ j:Nat,j<=l.length/\i=.int .i64 j/\OwnP wr wo.heap.size 2 1 InE v (numsL (l.take j) k)/\Below wo.heap.size wo wr) (fun _ i _=>l.length-(intOf i).toNat)
   case atStart=>exact⟨0,Nat.zero_le _,rfl,OwnP.nil,Below.refl _ _⟩
   case round=>
    obtain⟨j,hj,rfl,hin,hbi⟩:=hrel
    have hsi:=hbi.size
    by_cases hjl:j<l.length
    ·obtain⟨x,hx⟩:∃ x,l[j]?=some x:=⟨_,List.getElem?_eq_getElem hjl⟩
     obtain⟨b,off,rfl,hbB,hc⟩:=b3 (by rintro rfl;simp at hjl)
     obtain⟨cs,⟨rfl,hok⟩,_,hu⟩:=hc j _ hx
     have e0:wr.cell? ⟨b,off+j*2,none⟩=some (.int .i64 x.dc):=((hbi.cell (by show b<_;omega)).trans (hbr.cell hbB)).trans (hu 0 _ rfl)
     have e1:wr.cell? ⟨b,off+j*2+1,none⟩=some (.int .i64 x.n):=((hbi.cell (by show b<_;omega)).trans (hbr.cell hbB)).trans (hu 1 _ rfl)
     have HT:=hid (Vf hx k)
     have HLI:Hid ((numsL (l.take j) k).length + [x.n].length<=Few):=by
      have:=ZY (l.take j) k
      unfold Hid Few;simp at this ⊢;omega
     have JN:Hid (InE x.n [.int .i64 x.n]):=⟨rfl,hok.n⟩
     clear hu hx hc b3 hok
     by_cases hd:x.dc=k
     ·have hd':(x.dc==(k:Int))=true:=by simpa using hd
      have HD:=hid hd
      clear hd
      go_wp2_with (at_builtin;with_reducible refine Ql rfl (.tmp 22) (.tmp 28) _ rfl VQ (by decide) (by decide) (fun _ _ h=>h.one) rfl (hin.alloc _) rfl (SlP.one JN.out rfl _ rfl) HLI.out (by rw[World.size_alloc];omega) ?_;intro v1 w1 hown1 hb1 _)
      go_roundw
      case rel=>exact⟨j+1,by omega,by go_num,by rw[HT.out,if_pos HD.out];exact hown1,(hbi.alloc hsi _).trans hb1⟩
      case measure=>simp[intOf];omega
     ·have hd':(x.dc==(k:Int))=false:=by simpa using hd
      have HD:=hid hd
      clear hd
      go_wp2_with fail
      go_roundw
      case rel=>exact⟨j+1,by omega,by go_num,by rw[HT.out,if_neg HD.out,List.append_nil];exact hin,hbi⟩
      case measure=>simp[intOf];omega
    ·obtain rfl:j=l.length:=by omega
     rw[List.take_of_length_le (Nat.le_refl _)]at hin
     have sin:=hin.sl (by unfold Big;omega)
     have hnr:Hid (∀ x∈numsL l k,0<=x/\x<=1099511627778):=fun x hx=>by
      unfold numsL at hx
      obtain⟨d,hd,rfl⟩:=List.mem_map.1 hx
      exact hR d (List.mem_filter.1 hd).1
     clear hin
     go_wp2_with fail
     refine (qWc (numsL l k) _ wr sin (by omega) hnr.out).mono ?_
     rintro e w1 ⟨v1,rfl,ho1,hb1⟩
     have hs1:=hb1.size
     have hol:=VT (numsL l k)
     have s1:=ho1.sl (by unfold Big;omega)
     clear ho1
     go_wp2_with fail
     refine (JB _ k v1 w1 s1 (by omega) ⟨by omega,by omega⟩).mono ?_
     rintro e w4 ⟨v4,rfl,ho4,hb4⟩
     have hs4:=hb4.size
     have s4:=ho4.sl (by have:=HL.out;unfold Few at this;unfold Big;omega)
     have hB4:Below wo.heap.size wo w4:=(hbi.trans (hb1.mono hsi)).trans (hb4.mono (by omega))
     clear ho4
     go_wp2_with (at_builtin;with_reducible refine Ql rfl (.tmp 31) (.tmp 35) _ rfl qQm (by decide) (by decide) (fun _ _ h=>h.one) rfl (hown.grow hB4) rfl s4 HL.out (by omega) ?_;intro v5 w5 hown5 hb5 _)
     go_roundw
     case rel=>exact⟨k+1,by omega,by go_num,by rw[HX.out];exact hown5,(hbr.trans (hB4.mono hsz)).trans hb5⟩
     case measure=>simp[intOf];omega
  ·obtain rfl:k=4:=by omega
   go_wp2_with fail
   go_ret
   exact⟨_,rfl,hown,hbr⟩
theorem SlA.nil {α:Type}{w:World}{ok:Nat->Prop}{sz:Nat}{E:α->List Value->Prop}:SlA w ok sz E (.slice none 0 0) ([]:List α):=⟨none,0,rfl,Nat.le_refl _,by simp,fun h=>absurd rfl h⟩
theorem ZM (t:Tr)(w:World)(ve vk:Value)(h:t.rd w w.heap.size ve vk)(hN:t.sz<=100000) :
  Calls Tryz.prog 55 #[.agg #[ve,vk]] w (RetD w 102 5 LfA (fun _=>False) (t.lvs [])):=by
 obtain⟨A3,n3,A4,n4,rfl,rfl⟩:=Qk h
 have hr:=Qi ((Below.refl _ w).alloc (Nat.le_refl _) (.cells #[.slice A3 t.es.length n3,.slice A4 t.ks.length n4] 25)) (by simp:w.heap.size<=(w.alloc (.cells #[.slice A3 t.es.length n3,.slice A4 t.ks.length n4] 25)).heap.size) _ _ _ h
 have HR:=hid hr
 clear hr h
 go_enter Tryz.func55,Tryz.ntmps55
 go_wp2_with fail
 refine (qQr t [] (fun _=>False) _ _ _ _ HR.out SlA.nil (fun _ h=>h.elim) (by simpa using hN)).mono ?_
 rintro e w1 ⟨v,rfl,hv,hb⟩
 have hs:=hb.size
 simp only[World.size_alloc]at hs hb
 go_wp2_with fail
 go_ret
 refine⟨v,rfl,(hv.mono (by simp)).weak LfA.mon fun b hb=>?_,((Below.refl _ w).alloc (Nat.le_refl _) _).trans (hb.mono (by omega))⟩
 rcases hb with h|h
 ·exact h.elim
 ·refine .inr ?_;rw[World.size_alloc]at h;omega
mutual
theorem lvs_dots:∀ (t:Tr) (p:List ByteArray),(t.lvs p).map (fun x=>x.2.dot)=t.dots
 |.mk es ks,p=>by rw[Tr.lvs,Tr.dots,List.map_append,lvsL_dots ks p,List.map_map];rfl
theorem lvsL_dots:∀ (ks:List (ByteArray×Tr)) (p:List ByteArray),(Tr.lvsL ks p).map (fun x=>x.2.dot)=Tr.dotsL ks
 |[],p=>by rw[Tr.lvsL,Tr.dotsL];rfl
 |(k,t) :: ks,p=>by rw[Tr.lvsL,Tr.dotsL,List.map_append,lvs_dots t,lvsL_dots ks]
end
theorem Zh (t:Tr):t.dots.length<=t.sz:=by rw[←lvs_dots t [],List.length_map];exact lvs_len t []
theorem Zr (t:Tr)(w:World)(ve vk:Value)(h:t.rd w w.heap.size ve vk)(hN:t.sz<=90000)(hR:∀ d∈t.dots,0<=d.n/\d.n<=1099511627778) :
  Calls Tryz.prog 63 #[.agg #[ve,vk]] w (RetO w 45 3 (fun _=>SpE) (ctxOf t.dots)):=by
 obtain⟨A3,n3,A4,n4,rfl,rfl⟩:=Qk h
 have hr:=Qi ((Below.refl _ w).alloc (Nat.le_refl _) (.cells #[.slice A3 t.es.length n3,.slice A4 t.ks.length n4] 25)) (by simp:w.heap.size<=(w.alloc (.cells #[.slice A3 t.es.length n3,.slice A4 t.ks.length n4] 25)).heap.size) _ _ _ h
 have HR:=hid hr
 have hll:=lvs_len t []
 have hdl:=Zh t
 have hld:=hid (lvs_dots t [])
 clear hr h
 go_enter Tryz.func63,Tryz.ntmps63
 go_wp2_with fail
 refine (ZM t _ _ _ HR.out (by omega)).mono ?_
 rintro e w1 ⟨v,rfl,hv,hb1⟩
 have hs1:=hb1.size
 simp only[World.size_alloc]at hs1 hb1
 have hB1:Below w.heap.size w w1:=((Below.refl _ w).alloc (Nat.le_refl _) _).trans (hb1.mono (by omega))
 obtain⟨A,c,rfl,l1,l2,l3⟩:=hv.sl LfA.mon (by unfold Big;omega)
 unfold Big at l2
 clear hv
 go_wp2_with fail
 go_loopw [3,10] (fun v i wr=>∃ k:Nat,k<=(t.lvs []).length/\i=.int .i64 k/\OwnP wr w1.heap.size 52 2 DtE v (((t.lvs []).take k).map (fun x=>x.2.dot))/\Below w1.heap.size w1 wr) (fun _ i _=>(t.lvs []).length-(intOf i).toNat)
 case atStart=>exact⟨0,Nat.zero_le _,rfl,OwnP.nil,Below.refl _ _⟩
 case round=>
  obtain⟨k,hk,rfl,hown,hb⟩:=hrel
  have hsz:=hb.size
  by_cases hlt:k<(t.lvs []).length
  ·obtain⟨x,hx⟩:∃ x,(t.lvs [])[k]?=some x:=⟨_,List.getElem?_eq_getElem hlt⟩
   obtain⟨b,off,rfl,hbB,hc⟩:=l3 (by intro e;rw[e]at hlt;simp at hlt)
   obtain⟨cs,⟨A7,c7,rfl,_,hok⟩,_,hu⟩:=hc k _ hx
   have e0:wr.cell? ⟨b,off+k*5+1,none⟩=some (.int .i64 x.2.dc):=(hb.cell hbB).trans (hu 1 _ rfl)
   have e1:wr.cell? ⟨b,off+k*5+2,none⟩=some (.int .i64 x.2.n):=(hb.cell hbB).trans (hu 2 _ rfl)
   have HX:Hid (((t.lvs []).take (k+1)).map (fun x=>x.2.dot)=((t.lvs []).take k).map (fun x=>x.2.dot)++[x.2.dot]):=by
    unfold Hid;rw[List.take_add_one,hx];simp
   have HL:Hid ((((t.lvs []).take k).map (fun x=>x.2.dot)).length + [x.2.dot].length<=Few):=by unfold Hid Few;simp;omega
   have JN:Hid (DtE x.2.dot [.int .i64 x.2.dc,.int .i64 x.2.n]):=⟨rfl,hok.dc,hok.n⟩
   clear hu hx hc l3 hok
   go_wp2_with (at_builtin;with_reducible refine Ql rfl (.tmp 13) (.tmp 20) _ rfl eiDot (by decide) (by decide) (fun _ _ h=>h.one) rfl (hown.alloc _) rfl (SlP.one JN.out rfl _ rfl) HL.out (by rw[World.size_alloc];omega) ?_;intro v1 w2 hown1 hb2 _)
   go_roundw
   case rel=>exact⟨k+1,by omega,by go_num,by rw[HX.out];exact hown1,(hb.alloc (by omega) _).trans hb2⟩
   case measure=>simp[intOf];omega
  ·obtain rfl:k=(t.lvs []).length:=by omega
   rw[List.take_of_length_le (Nat.le_refl _),hld.out]at hown
   have sown:=hown.sl (by unfold Big;omega)
   clear hown
   go_wp2_with fail
   refine (qWe t.dots _ wr sown (by omega) hR).mono ?_
   rintro e w3 ⟨v3,rfl,hv3,hb3⟩
   go_wp2_with fail
   go_ret
   exact⟨v3,rfl,hv3.mono (by omega),(hB1.trans (hb.mono (by omega))).trans (hb3.mono (by omega))⟩
def deepL (l:List Lf):Nat:=(l.map fun x=>x.1.length).sum
theorem qY5 {l:List Lf}{x:Lf}(h:x∈l):x.1.length<=deepL l:=by
 unfold deepL
 induction l with
 |nil=>cases h
 |cons y l ih=>
  rw[List.map_cons,List.sum_cons]
  rcases List.mem_cons.1 h with rfl|h
  ·omega
  ·have:=ih h;omega
def QB (l:List Lf):Tr:=JQ (deepL l) l
def getL (l:List Lf)(p:List ByteArray):List Lf:=p.foldl Qu l
def getT (t:Tr)(p:List ByteArray):Tr:=QB (getL (t.lvs []) p)
theorem qWg {l:List Lf}{p:List ByteArray}{k:Nat}{x:ByteArray}(h:p[k]?=some x):getL l (p.take (k+1))=Qu (getL l (p.take k)) x:=by
 unfold getL;rw[List.take_add_one,h,List.foldl_append];rfl
theorem zZa (l:List Lf)(p:List ByteArray):(getL l p).length<=l.length:=by
 unfold getL
 induction p generalizing l with
 |nil=>exact Nat.le_refl _
 |cons x p ih=>exact Nat.le_trans (ih _) (Ym l x)
theorem ZN {w:World}{g:Nat}{t:Tr}{ok:Nat->Prop}{ve vk x y:Value}{e:TypeId}(hbx:w.heap[g]?=some (.cells #[x,y] e (0,0)))(h:t.rda w ok ve vk)(hne:∀ b,ok b->b≠g) :
  ((w.setCell ⟨g,0,none⟩ ve).setCell ⟨g,1,none⟩ vk).cell? ⟨g,0,none⟩=some ve/\((w.setCell ⟨g,0,none⟩ ve).setCell ⟨g,1,none⟩ vk).cell? ⟨g,1,none⟩=some vk /\
   t.rda ((w.setCell ⟨g,0,none⟩ ve).setCell ⟨g,1,none⟩ vk) ok ve vk/\((w.setCell ⟨g,0,none⟩ ve).setCell ⟨g,1,none⟩ vk).heap.size=w.heap.size:=by
 have hW:=Qe (i:=1) (Qe (i:=0) hbx ve) vk
 refine⟨(Qa (i:=0) hW).trans (by simp),(Qa (i:=1) hW).trans (by simp),Qp (fun b hb=>?_) (fun _ hb=>hb) _ _ _ h,by simp[World.setCell]⟩
 exact (Below.heap_setCell _ _ _ _ (hne b hb)).trans (Below.heap_setCell _ _ _ _ (hne b hb))
def RetT (w:World)(t:Tr)(e:Ending)(w':World):Prop:=
 ∃ ve vk,e=.returned (.agg #[ve,vk])/\t.rda w' (fun b=>w.heap.size<=b/\b<w'.heap.size) ve vk/\Below w.heap.size w w'
theorem Yy (l:List Lf)(vl:Value)(w:World)(h:SlP w w.heap.size 5 (LfA w (fun b=>b<w.heap.size)) vl l)(hN:l.length<=900000) :
  Calls Tryz.prog 57 #[vl] w (RetT w (QB l)):=JA _ l vl w (fun _ hx=>qY5 hx) h hN
theorem Yo (t:Tr)(p:List ByteArray)(w:World)(ve vk vp:Value)(h:t.rd w w.heap.size ve vk)(hp:SlP w w.heap.size 1 StE vp p)(hN:t.sz<=100000) :
  Calls Tryz.prog 76 #[.agg #[ve,vk],vp] w (RetT w (getT t p)):=by
 obtain⟨A3,n3,A4,n4,rfl,rfl⟩:=Qk h
 obtain⟨A,c,rfl,p1,p2,p3⟩:=hp
 unfold Big at p2
 have hb0:Below w.heap.size w ((w.alloc (.cells #[.slice A3 t.es.length n3,.slice A4 t.ks.length n4] 25)).alloc (.cells #[.slice none 0 0,.slice none 0 0] 25)):=((Below.refl _ w).alloc (Nat.le_refl _) _).alloc (by simp) _
 have hll:Hid ((t.lvs []).length<=100000):=Nat.le_trans (lvs_len t []) hN
 have HG:Hid (getT t p=QB (getL (t.lvs []) p)):=rfl
 go_enter Tryz.func76,Tryz.ntmps76
 go_wp2_with (go_at_call 55;refine (ZM t _ _ _ (Qi hb0 (by simp;omega) _ _ _ h) hN).mono ?_;rintro e w1 ⟨vl,rfl,hl,hb1⟩)
 have hs1:=hb1.size
 simp only[World.size_alloc]at hs1
 have hbb:=hid ((hb1.block (w.heap.size+1) (by simp)).trans (Qc (w:=w.alloc (.cells #[.slice A3 t.es.length n3,.slice A4 t.ks.length n4] 25)) (by simp)))
 have HL0:Hid (SlP w1 w1.heap.size 5 (LfA w1 (fun b=>b<w1.heap.size)) vl (t.lvs [])):=(hl.sl LfA.mon (by have:=hll.out;unfold Big;omega)).imp (Below.refl _ _) (Nat.le_refl _) (fun _ _ _ hx=>LfA.mon.up (fun _ _=>rfl) (fun b hb=>hb.2) hx)
 have hB1:Below w.heap.size w w1:=hb0.trans (hb1.mono (by simp;omega))
 clear hl hb1 hb0
 go_loopw [5,11] (fun v i wr=>∃ k:Nat,k<=p.length/\i=.int .i64 k/\Hid (SlP wr wr.heap.size 5 (LfA wr (fun b=>b<wr.heap.size)) v (getL (t.lvs []) (p.take k)))/\Below w1.heap.size w1 wr) (fun _ i _=>p.length-(intOf i).toNat)
 case atStart=>exact⟨0,Nat.zero_le _,rfl,HL0,Below.refl _ _⟩
 case round=>
  obtain⟨k,hk,rfl,HS,hb⟩:=hrel
  have hsz:=hb.size
  have hB:Below w.heap.size w wr:=hB1.trans (hb.mono (by omega))
  have HLN:Hid ((getL (t.lvs []) (p.take k)).length<=100000):=Nat.le_trans (zZa _ _) hll.out
  by_cases hlt:k<p.length
  ·obtain⟨x,hx⟩:∃ x,p[k]?=some x:=⟨_,List.getElem?_eq_getElem hlt⟩
   obtain⟨b,off,rfl,hbB,hc⟩:=p3 (by rintro rfl;simp at hlt)
   obtain⟨cs,⟨rfl,hok⟩,_,hu⟩:=hc k _ hx
   have e0:wr.cell? ⟨b,off+k,none⟩=some (.string x):=(hB.cell (p:=⟨b,off+k,none⟩) hbB).trans (by simpa using hu 0 _ rfl)
   have HX:Hid (getL (t.lvs []) (p.take (k+1))=Qu (getL (t.lvs []) (p.take k)) x):=qWg hx
   clear hu hc p3 hx
   go_wp2_with (go_at_call 105;refine (Jz _ x (fun _=>True) _ _ (HS.out.imp (Below.refl _ _) (Nat.le_refl _) (fun _ _ _ hx=>LfA.mon.up (fun _ _=>rfl) (fun b hb=>⟨trivial,hb⟩) hx)) (by have:=HLN.out;omega)).mono ?_;rintro e w2 ⟨vU,rfl,hU,hb2⟩)
   go_roundw
   case rel=>exact⟨k+1,by omega,by go_num,by rw[HX.out];exact (hU.sl LfA.mon (by have:=HLN.out;have:=Ym (getL (t.lvs []) (p.take k)) x;unfold Big;omega)).imp (Below.refl _ _) (Nat.le_refl _) (fun _ _ _ hx=>LfA.mon.up (fun _ _=>rfl) (fun b hb=>hb.2) hx),hb.trans (hb2.mono hsz)⟩
   case measure=>simp[intOf];omega
  ·obtain rfl:k=p.length:=by omega
   rw[List.take_of_length_le (Nat.le_refl _)]at HS HLN
   clear p3
   go_wp2_with (go_at_call 57;refine (Yy _ _ _ HS.out (by have:=HLN.out;omega)).mono ?_;rintro e w2 ⟨ve2,vk2,rfl,hrd,hb2⟩;obtain⟨Av,nv,Aw,nw,rfl,rfl⟩:=Qj hrd;have hbx:=hid ((hb2.block (w.heap.size+1) (by omega)).trans ((hb.block _ (by omega)).trans hbb.out));have d0:w2.cell? ⟨w.heap.size+1,0,none⟩=some (.slice none 0 0):=Qa (i:=0) hbx.out;have d1:w2.cell? ⟨w.heap.size+1,1,none⟩=some (.slice none 0 0):=Qa (i:=1) hbx.out;have z0:=Qb (i:=0) hbx.out;have z1:=Qb (i:=1) hbx.out)
   obtain⟨r0,r1,hrW,hsW⟩:=ZN hbx.out hrd (fun b hb=>by have:=hb.1;omega)
   have hBW:Below w.heap.size w ((w2.setCell ⟨w.heap.size+1,0,none⟩ (.slice Av (QB (getL (t.lvs []) p)).es.length nv)).setCell ⟨w.heap.size+1,1,none⟩ (.slice Aw (QB (getL (t.lvs []) p)).ks.length nw)):=((hB.trans (hb2.mono (by omega))).setCell (by simp) _).setCell (by simp) _
   refine bodyPost_ret (v:=.agg #[.slice Av (QB (getL (t.lvs []) p)).es.length nv,.slice Aw (QB (getL (t.lvs []) p)).ks.length nw]) (by simp[results,Tryz.results76,go_sem,r0,r1]) rfl ⟨_,_,rfl,?_,hBW⟩
   exact Qp (fun _ _=>rfl) (fun b hb=>⟨by have:=hb.1;omega,by rw[hsW];exact hb.2⟩) _ _ _ hrW
theorem JW (a:ByteArray):ltS a ByteArray.empty=false:=by
 unfold ltS;rw[bytesLess_eq];simp
theorem XB {a b:Dt}(h:a.lt b=false)(k:b.lt a=false):a=b:=by
 obtain⟨x,y⟩:=a
 obtain⟨u,v⟩:=b
 unfold Dt.lt at h k
 split at h<;>split at k<;>simp at *<;>omega
inductive Tr.Ord:Tr->Prop
 |mk {es:List En}{ks:List Kd}(h1:es.Pairwise fun a b=>a.dot.lt b.dot=true) (h2:ks.Pairwise fun a b=>ltS a.1 b.1=true) (h3:∀ k t,(k,t)∈ks->k≠ByteArray.empty/\t.empty=false) (h4:∀ k t,(k,t)∈ks->Tr.Ord t):Tr.Ord (.mk es ks)
theorem QS {es:List En}{ks:List Kd}:Tr.Ord (.mk es ks)↔(es.Pairwise fun a b=>a.dot.lt b.dot=true)/\(ks.Pairwise fun a b=>ltS a.1 b.1=true)/\∀ k t,(k,t)∈ks->k≠ByteArray.empty/\t.empty=false/\t.Ord:=
 ⟨fun h=>by cases h with|mk h1 h2 h3 h4=>exact⟨h1,h2,fun k t hm=>⟨(h3 k t hm).1,(h3 k t hm).2,h4 k t hm⟩⟩,fun h=>.mk h.1 h.2.1 (fun k t hm=>⟨(h.2.2 k t hm).1,(h.2.2 k t hm).2.1⟩) fun k t hm=>(h.2.2 k t hm).2.2⟩
theorem Ord.mk' {es:List En}{ks:List Kd}(h1:es.Pairwise fun a b=>a.dot.lt b.dot=true)(h2:ks.Pairwise fun a b=>ltS a.1 b.1=true)(h3:∀ k t,(k,t)∈ks->k≠ByteArray.empty/\t.empty=false/\t.Ord):Tr.Ord (.mk es ks):=QS.2 ⟨h1,h2,h3⟩
theorem qQt:∀ (es:List En) (p:Option Dt),entsB p es=true->(es.Pairwise fun a b=>a.dot.lt b.dot=true)/\∀ e∈es,okP p e.dot=true
 |[],_,_=>⟨.nil,fun _ h=>by cases h⟩
 |e :: es,p,h=>by
  rw[ZS,Bool.and_eq_true,Bool.and_eq_true]at h
  obtain⟨h1,h2⟩:=qQt es _ h.2
  refine⟨.cons (fun a ha=>h2 a ha) h1,fun a ha=>?_⟩
  rcases List.mem_cons.1 ha with rfl|ha
  ·exact h.1.2
  ·exact qQp h.1.2 (h2 a ha)
theorem qWh {p:Option ByteArray}{a b:ByteArray}(h:okK p a=true)(k:ltS a b=true):okK p b=true:=by
 cases p with
 |none=>rfl
 |some q=>exact QD h k
theorem qXo {k:ByteArray}(h:keyB k=true):k≠ByteArray.empty:=fun e=>by
 subst e;simp[keyB]at h
theorem JX (d:Int):∀ (ks:List Kd) (p:Option ByteArray),Tr.rightL p ks d=true->(ks.Pairwise fun a b=>ltS a.1 b.1=true)/\(∀ x∈ks,okK p x.1=true)/\∀ k t,(k,t)∈ks->k≠ByteArray.empty/\t.empty=false/\t.right (d-1)=true
 |[],_,_=>⟨.nil,fun _ h=>(by cases h),fun _ _ h=>by cases h⟩
 |(k,t) :: ks,p,h=>by
  rw[Q6,Bool.and_eq_true,Bool.and_eq_true,Bool.and_eq_true,Bool.and_eq_true]at h
  obtain⟨⟨⟨⟨a1,a2⟩,a3⟩,a4⟩,a5⟩:=h
  obtain⟨h1,h2,h3⟩:=JX d ks _ a5
  refine⟨.cons (fun a ha=>h2 a ha) h1,fun a ha=>?_,fun k' t' hm=>?_⟩
  ·rcases List.mem_cons.1 ha with rfl|ha
   ·exact a2
   ·exact qWh a2 (h2 a ha)
  ·rcases List.mem_cons.1 hm with e|hm
   ·cases e;exact⟨qXo a1,by simpa using a3,a4⟩
   ·exact h3 k' t' hm
theorem Zb:∀ (t:Tr) (d:Int),t.right d=true->t.Ord:=by
 intro t
 induction t using Tr.ind with
 |h es ks ih=>
 intro d h
 rw[Tr.right,Bool.and_eq_true,Bool.and_eq_true]at h
 obtain⟨h1,h2,h3⟩:=JX d ks none h.2
 exact Ord.mk' (qQt es none h.1.2).1 h1 fun k t hm=>⟨(h3 k t hm).1,(h3 k t hm).2.1,ih k t hm _ (h3 k t hm).2.2⟩
/-! the leaves of a tree -/
mutual
theorem lvs_pre:∀ (t:Tr) (p q:List ByteArray),t.lvs (p++q)=(t.lvs q).map fun x=>(p++x.1,x.2)
 |.mk es ks,p,q=>by rw[Tr.lvs,Tr.lvs,List.map_append,List.map_map,lvsL_pre ks p q];rfl
theorem lvsL_pre:∀ (ks:List (ByteArray×Tr)) (p q:List ByteArray),Tr.lvsL ks (p++q)=(Tr.lvsL ks q).map fun x=>(p++x.1,x.2)
 |[],p,q=>rfl
 |(k,t) :: ks,p,q=>by rw[Tr.lvsL,Tr.lvsL,List.map_append,lvsL_pre ks p q,List.append_assoc,lvs_pre t p (q++[k])]
end
theorem JY (t:Tr)(p:List ByteArray):t.lvs p=(t.lvs []).map fun x=>(p++x.1,x.2):=by
 have:=lvs_pre t p [];simpa using this
theorem VU {ks:List Kd}{p:List ByteArray}{x:Lf}:x∈Tr.lvsL ks p↔∃ k t,(k,t)∈ks/\x∈t.lvs (p++[k]):=by
 induction ks with
 |nil=>simp[Tr.lvsL]
 |cons y ks ih=>
  obtain⟨k,t⟩:=y
  rw[Tr.lvsL,List.mem_append,ih]
  constructor
  ·rintro (h|⟨k',t',hm,h⟩)
   ·exact⟨k,t,by simp,h⟩
   ·exact⟨k',t',by simp[hm],h⟩
  ·rintro⟨k',t',hm,h⟩
   rcases List.mem_cons.1 hm with e|hm
   ·cases e;exact .inl h
   ·exact .inr ⟨k',t',hm,h⟩
theorem VV {es:List En}{ks:List Kd}{x:Lf}:x∈(Tr.mk es ks).lvs []↔(x.1=[]/\x.2∈es)∨∃ k t qs,(k,t)∈ks/\x.1=k :: qs/\(qs,x.2)∈t.lvs []:=by
 rw[Tr.lvs,List.mem_append,VU]
 constructor
 ·rintro (h|⟨k,t,hm,h⟩)
  ·obtain⟨e,he,rfl⟩:=List.mem_map.1 h
   exact .inl ⟨rfl,he⟩
  ·rw[JY]at h
   obtain⟨y,hy,rfl⟩:=List.mem_map.1 h
   exact .inr ⟨k,t,y.1,hm,rfl,hy⟩
 ·obtain⟨p,e⟩:=x
  rintro (⟨h1,h2⟩|⟨k,t,qs,hm,h1,h2⟩)
  ·cases h1;exact .inl (List.mem_map.2 ⟨e,h2,rfl⟩)
  ·cases h1;exact .inr ⟨k,t,hm,by rw[JY];exact List.mem_map.2 ⟨(qs,e),h2,rfl⟩⟩
theorem Zs {es:List En}{ks:List Kd}{e:En}:(([],e):Lf)∈(Tr.mk es ks).lvs []↔e∈es:=by
 rw[VV];simp
theorem Qt {es:List En}{ks:List Kd}{e:En}{k:ByteArray}{qs:List ByteArray}:((k :: qs,e):Lf)∈(Tr.mk es ks).lvs []↔∃ t,(k,t)∈ks/\(qs,e)∈t.lvs []:=by
 rw[VV]
 constructor
 ·rintro (⟨h,_⟩|⟨k',t,qs',hm,h,h2⟩)
  ·cases h
  ·cases h;exact⟨t,hm,h2⟩
 ·rintro⟨t,hm,h⟩;exact .inr ⟨k,t,qs,hm,rfl,h⟩
theorem XD:∀ (t:Tr),t.Ord->t.empty=false->∃ x,x∈t.lvs []:=by
 intro t
 induction t using Tr.ind with
 |h es ks ih=>
 intro h he
 obtain⟨_,_,h3⟩:=QS.1 h
 cases es with
 |cons e es=>exact⟨([],e),Zs.2 (by simp)⟩
 |nil=>
  cases ks with
  |nil=>simp[Tr.empty]at he
  |cons y ks=>
   obtain⟨k,t⟩:=y
   obtain⟨x,hx⟩:=ih k t (by simp) (h3 k t (by simp)).2.2 (h3 k t (by simp)).2.1
   exact⟨(k :: x.1,x.2),Qt.2 ⟨t,by simp,hx⟩⟩
theorem Zt {α:Type}{r:α->α->Bool}(hi:∀ a,r a a=false)(ht:∀ a b c,r a b=true->r b c=true->r a c=true):∀ {l m:List α},(l.Pairwise fun a b=>r a b=true)->(m.Pairwise fun a b=>r a b=true)->(∀ x,x∈l↔x∈m)->l=m
 |[],[],_,_,_=>rfl
 |[],y :: m,_,_,h=>by have:=(h y).2 (by simp);cases this
 |x :: l,[],_,_,h=>by have:=(h x).1 (by simp);cases this
 |x :: l,y :: m,hl,hm,h=>by
  rw[List.pairwise_cons]at hl hm
  have hxy:x=y:=by
   rcases List.mem_cons.1 ((h x).1 (by simp)) with e|e
   ·exact e
   ·rcases List.mem_cons.1 ((h y).2 (by simp)) with e'|e'
    ·exact e'.symm
    ·have:=ht _ _ _ (hl.1 y e') (hm.1 x e);rw[hi]at this;cases this
  subst hxy
  congr 1
  refine Zt hi ht hl.2 hm.2 fun z=>?_
  constructor
  ·intro hz
   rcases List.mem_cons.1 ((h z).1 (List.mem_cons_of_mem _ hz)) with e|e
   ·subst e;have:=hl.1 z hz;rw[hi]at this;cases this
   ·exact e
  ·intro hz
   rcases List.mem_cons.1 ((h z).2 (List.mem_cons_of_mem _ hz)) with e|e
   ·subst e;have:=hm.1 z hz;rw[hi]at this;cases this
   ·exact e
theorem XF {ks:List Kd}(h:ks.Pairwise fun a b=>ltS a.1 b.1=true){k:ByteArray}{s t:Tr}(hs:(k,s)∈ks)(ht:(k,t)∈ks):s=t:=by
 induction ks with
 |nil=>cases hs
 |cons y ks ih=>
  rw[List.pairwise_cons]at h
  rcases List.mem_cons.1 hs with e|hs
  ·rcases List.mem_cons.1 ht with e'|ht
   ·rw[←e]at e';cases e';rfl
   ·have:=h.1 _ ht;rw[←e]at this;simp only[Qw]at this;cases this
  ·rcases List.mem_cons.1 ht with e'|ht
   ·have:=h.1 _ hs;rw[←e']at this;simp only[Qw]at this;cases this
   ·exact ih h.2 hs ht
theorem qWi:∀ (s t:Tr),s.Ord->t.Ord->(∀ x,x∈s.lvs []↔x∈t.lvs [])->s=t:=by
 intro s
 induction s using Tr.ind with
 |h es ks ih=>
 intro t hs ht h
 obtain⟨es',ks'⟩:=t
 obtain⟨s1,s2,s3⟩:=QS.1 hs
 obtain⟨t1,t2,t3⟩:=QS.1 ht
 have he:es=es':=Zt (r:=fun a b:En=>a.dot.lt b.dot) (fun a=>Yn _) (fun _ _ _=>YJ) s1 t1 fun e=>by
  rw[←Zs (ks:=ks),←Zs (ks:=ks')];exact h _
 have hk:∀ k s,(k,s)∈ks->(k,s)∈ks':=fun k s hm=>by
  obtain⟨h1,h2,h3⟩:=s3 k s hm
  obtain⟨x,hx⟩:=XD s h3 h2
  obtain⟨u,hu,hxu⟩:=Qt.1 ((h (k :: x.1,x.2)).1 (Qt.2 ⟨s,hm,hx⟩))
  have:s=u:=ih k s hm u h3 (t3 k u hu).2.2 fun y=>by
   constructor
   ·intro hy
    obtain⟨v,hv,hyv⟩:=Qt.1 ((h (k :: y.1,y.2)).1 (Qt.2 ⟨s,hm,hy⟩))
    rw[XF t2 hu hv];exact hyv
   ·intro hy
    obtain⟨v,hv,hyv⟩:=Qt.1 ((h (k :: y.1,y.2)).2 (Qt.2 ⟨u,hu,hy⟩))
    rw[XF s2 hm hv];exact hyv
  rw[this];exact hu
 have hk':∀ k u,(k,u)∈ks'->(k,u)∈ks:=fun k u hm=>by
  obtain⟨h1,h2,h3⟩:=t3 k u hm
  obtain⟨x,hx⟩:=XD u h3 h2
  obtain⟨s,hs',_⟩:=Qt.1 ((h (k :: x.1,x.2)).2 (Qt.2 ⟨u,hm,hx⟩))
  have:=XF t2 hm (hk k s hs')
  rw[this];exact hs'
 have hkk:ks=ks':=Zt (r:=fun a b:Kd=>ltS a.1 b.1) (fun a=>Qw _) (fun _ _ _=>QD) s2 t2 fun ⟨k,t⟩=>⟨hk k t,hk' k t⟩
 rw[he,hkk]
/-! what Build takes -/
theorem qY6 (l:List Lf)(last:Option Dt):∀ (b:Option En),(∀ c,b=some c->∃ e,l.foldl (selS last) b=some e/\c.dot.lt e.dot=false)/\∀ x∈l,x.1=[]->okP last x.2.dot=true->∃ e,l.foldl (selS last) b=some e/\x.2.dot.lt e.dot=false:=by
 induction l with
 |nil=>intro b;exact⟨fun c h=>⟨c,h,Yn _⟩,fun _ h=>by cases h⟩
 |cons y l ih=>
  intro b
  rw[List.foldl_cons]
  obtain⟨i1,i2⟩:=ih (selS last b y)
  refine⟨fun c hc=>?_,fun x hx h1 h2=>?_⟩
  ·subst hc
   by_cases hs:selC last (some c) y=true
   ·obtain⟨e,he,hle⟩:=i1 y.2 (by simp[selS,hs])
    refine⟨e,he,?_⟩
    simp only[selC,Bool.and_eq_true]at hs
    cases hce:c.dot.lt e.dot
    ·rfl
    ·rw[YJ hs.2 hce]at hle;cases hle
   ·exact i1 c (by simp[selS,hs])
  ·rcases List.mem_cons.1 hx with rfl|hx
   ·cases b with
    |none=>
     have hs:selC last none x=true:=by simp[selC,h1,h2]
     exact i1 x.2 (by simp[selS,hs])
    |some c=>
     by_cases hs:selC last (some c) x=true
     ·exact i1 x.2 (by simp[selS,hs])
     ·obtain⟨e,he,hle⟩:=i1 c (by simp[selS,hs])
      refine⟨e,he,?_⟩
      have hxc:x.2.dot.lt c.dot=false:=by
       cases hxc:x.2.dot.lt c.dot
       ·rfl
       ·exact absurd (by simp[selC,h1,h2,hxc]) hs
      cases hxe:x.2.dot.lt e.dot
      ·rfl
      ·cases hec:e.dot.lt c.dot
       ·have:=XB hec hle;rw[this]at hxe;rw[hxe]at hxc;cases hxc
       ·rw[YJ hxe hec]at hxc;cases hxc
   ·exact i2 x hx h1 h2
theorem JZ (l:List Lf):∀ (n:Nat) (es:List En),ahE l (es.getLast?.map En.dot)<n->(es.Pairwise fun a b=>a.dot.lt b.dot=true)->(∀ e∈es,(([],e):Lf)∈l)->(∀ x∈l,x.1=[]->okP (es.getLast?.map En.dot) x.2.dot=false->∃ e∈es,e.dot=x.2.dot) ->
  ((Xw l n es).Pairwise fun a b=>a.dot.lt b.dot=true)/\(∀ e∈Xw l n es,(([],e):Lf)∈l)/\∀ x∈l,x.1=[]->∃ e∈Xw l n es,e.dot=x.2.dot
 |0,_,h,_,_,_=>absurd h (Nat.not_lt_zero _)
 |n+1,es,h,h1,h2,h3=>by
  rw[Xw]
  cases hb:bestE l (es.getLast?.map En.dot) with
  |none=>
   refine⟨h1,h2,fun x hx hx1=>?_⟩
   cases ho:okP (es.getLast?.map En.dot) x.2.dot
   ·exact h3 x hx hx1 ho
   ·obtain⟨e,he,_⟩:=(qY6 l (es.getLast?.map En.dot) none).2 x hx hx1 ho
    unfold bestE at hb;rw[hb]at he;cases he
  |some e=>
   obtain⟨⟨y,hy,hy1,hy2⟩,hok⟩:=X9 hb
   have hle:(es++[e]).getLast?.map En.dot=some e.dot:=by simp
   refine JZ l n (es++[e]) ?_ ?_ ?_ ?_
   ·rw[hle];have:=zXo hb;omega
   ·rw[List.pairwise_append]
    refine⟨h1,List.pairwise_singleton _ _,fun a ha b hb'=>?_⟩
    rw[List.mem_singleton]at hb';subst hb'
    rcases List.eq_nil_or_concat es with rfl|⟨es',z,rfl⟩
    ·cases ha
    ·rw[List.concat_eq_append]at *
     rw[List.getLast?_append]at hok
     have hz:z.dot.lt b.dot=true:=hok
     rcases List.mem_append.1 ha with ha|ha
     ·exact YJ ((List.pairwise_append.1 h1).2.2 a ha z (by simp)) hz
     ·rw[List.mem_singleton]at ha;subst ha;exact hz
   ·intro a ha
    rcases List.mem_append.1 ha with ha|ha
    ·exact h2 a ha
    ·rw[List.mem_singleton]at ha;subst ha
     obtain⟨p,e'⟩:=y
     simp only at hy1 hy2;subst hy1;subst hy2;exact hy
   ·intro x hx hx1 ho
    rw[hle]at ho
    have ho:e.dot.lt x.2.dot=false:=ho
    cases ho':okP (es.getLast?.map En.dot) x.2.dot
    ·obtain⟨a,ha,hae⟩:=h3 x hx hx1 ho'
     exact⟨a,List.mem_append_left _ ha,hae⟩
    ·obtain⟨e',he',hm⟩:=(qY6 l (es.getLast?.map En.dot) none).2 x hx hx1 ho'
     unfold bestE at hb;rw[hb]at he';cases he'
     exact⟨e,by simp,XB ho hm⟩
theorem qQu (l:List Lf):((Yh l).Pairwise fun a b=>a.dot.lt b.dot=true)/\(∀ e∈Yh l,(([],e):Lf)∈l)/\∀ x∈l,x.1=[]->∃ e∈Yh l,e.dot=x.2.dot:=
 JZ l _ [] (by have:=qV5 l (([]:List En).getLast?.map En.dot);omega) .nil (fun _ h=>by cases h) (fun x _ _ h=>by simp[okP]at h)
theorem qY7 (l:List Lf)(last:ByteArray):∀ (b:ByteArray),(b≠ByteArray.empty->l.foldl (keyS last) b≠ByteArray.empty/\ltS b (l.foldl (keyS last) b)=false)/\∀ x∈l,∀ q qs,x.1=q :: qs->ltS last q=true->l.foldl (keyS last) b≠ByteArray.empty/\ltS q (l.foldl (keyS last) b)=false:=by
 induction l with
 |nil=>intro b;exact⟨fun h=>⟨h,Qw _⟩,fun _ h=>by cases h⟩
 |cons y l ih=>
  intro b
  rw[List.foldl_cons]
  obtain⟨i1,i2⟩:=ih (keyS last b y)
  have hne:∀ q:ByteArray,ltS last q=true->q≠ByteArray.empty:=fun q h e=>by rw[e,JW]at h;cases h
  refine⟨fun hb=>?_,fun x hx q qs h1 h2=>?_⟩
  ·by_cases hs:keyC last b y=true
   ·obtain⟨p,e⟩:=y
    cases p with
    |nil=>simp[keyC]at hs
    |cons q qs=>
     have e1:keyS last b (q :: qs,e)=q:=by simp[keyS,hs]
     rw[e1]at i1 ⊢
     simp only[keyC,Bool.and_eq_true,Bool.or_eq_true,decide_eq_true_eq]at hs
     obtain⟨j1,j2⟩:=i1 (hne q hs.1)
     refine⟨j1,?_⟩
     cases hc:ltS b (l.foldl (keyS last) q)
     ·rfl
     ·rcases hs.2 with h|h
      ·exact absurd h hb
      ·rw[QD h hc]at j2;cases j2
   ·have e1:keyS last b y=b:=by simp[keyS,hs]
    rw[e1]at i1 ⊢;exact i1 hb
  ·rcases List.mem_cons.1 hx with rfl|hx
   ·obtain⟨p,e⟩:=x
    simp only at h1;subst h1
    by_cases hs:keyC last b (q :: qs,e)=true
    ·have e1:keyS last b (q :: qs,e)=q:=by simp[keyS,hs]
     rw[e1]at i1 ⊢;exact i1 (hne q h2)
    ·have e1:keyS last b (q :: qs,e)=b:=by simp[keyS,hs]
     rw[e1]at i1 ⊢
     simp only[keyC,h2,Bool.true_and,Bool.or_eq_true,decide_eq_true_eq,not_or]at hs
     obtain⟨j1,j2⟩:=i1 hs.1
     refine⟨j1,?_⟩
     cases hc:ltS q (l.foldl (keyS last) b)
     ·rfl
     ·have hqb:ltS q b=false:=by simpa using hs.2
      cases hcb:ltS (l.foldl (keyS last) b) b
      ·have:=ZW hcb j2;rw[this]at hc;rw[hc]at hqb;cases hqb
      ·rw[QD hc hcb]at hqb;cases hqb
   ·exact i2 x hx q qs h1 h2
theorem J2 (f:List Lf->Tr)(l:List Lf):∀ (n:Nat) (last:ByteArray),ahK l last<n->((ZX f l n last).Pairwise fun a b=>ltS a.1 b.1=true) /\
  (∀ k t,(k,t)∈ZX f l n last->ltS last k=true/\t=f (Qu l k)/\∃ x∈l,∃ qs,x.1=k :: qs)/\∀ x∈l,∀ q qs,x.1=q :: qs->ltS last q=true->(q,f (Qu l q))∈ZX f l n last
 |0,_,h=>absurd h (Nat.not_lt_zero _)
 |n+1,last,h=>by
  rw[ZX]
  by_cases hb:bestK l last=ByteArray.empty
  ·rw[if_pos hb]
   refine⟨.nil,fun _ _ h=>(by cases h),fun x hx q qs h1 h2=>?_⟩
   exact absurd hb ((qY7 l last ByteArray.empty).2 x hx q qs h1 h2).1
  ·rw[if_neg hb]
   obtain⟨hm,hlt⟩:=Ja hb
   obtain⟨i1,i2,i3⟩:=J2 f l n (bestK l last) (by have:=zXp hb;omega)
   refine⟨.cons (fun a ha=>(i2 a.1 a.2 ha).1) i1,fun k t hkt=>?_,fun x hx q qs h1 h2=>?_⟩
   ·rcases List.mem_cons.1 hkt with e|e
    ·cases e;exact⟨hlt,rfl,hm⟩
    ·obtain⟨j1,j2,j3⟩:=i2 k t e
     exact⟨QD hlt j1,j2,j3⟩
   ·obtain⟨_,hmin⟩:=(qY7 l last ByteArray.empty).2 x hx q qs h1 h2
    cases hq:ltS (bestK l last) q
    ·have:=ZW hq hmin
     rw[←this];exact List.mem_cons_self
    ·exact List.mem_cons_of_mem _ (i3 x hx q qs h1 hq)
theorem ZC {l:List Lf}{q:ByteArray}{qs:List ByteArray}{e:En}:((qs,e):Lf)∈Qu l q↔((q :: qs,e):Lf)∈l:=by
 unfold Qu
 rw[List.mem_filterMap]
 constructor
 ·rintro⟨⟨p,e'⟩,hx,hu⟩
  cases p with
  |nil=>simp[Yl]at hu
  |cons a ps=>
   by_cases ha:a=q
   ·simp[Yl,ha]at hu;obtain⟨rfl,rfl⟩:=hu;rw[←ha];exact hx
   ·simp[Yl,ha]at hu
 ·intro h;exact⟨_,h,by simp[Yl]⟩
structure LvOk (l:List Lf):Prop where
 key:∀ x∈l,∀ k∈x.1,k≠ByteArray.empty
 one:∀ x∈l,∀ y∈l,x.1=y.1->x.2.dot=y.2.dot->x=y
theorem LvOk.under {l:List Lf}(h:LvOk l)(q:ByteArray):LvOk (Qu l q):=
 ⟨fun x hx k hk=>h.key (q :: x.1,x.2) (ZC.1 hx) k (List.mem_cons_of_mem _ hk),fun x hx y hy h1 h2=>by
  have:=h.one (q :: x.1,x.2) (ZC.1 hx) (q :: y.1,y.2) (ZC.1 hy) (by rw[h1]) h2
  obtain⟨p,e⟩:=x
  obtain⟨p',e'⟩:=y
  simp only[Prod.mk.injEq,List.cons.injEq,true_and]at this
  rw[this.1,this.2]⟩
def topT (d:Nat):List Lf->Tr:=match d with|0=>fun _=>.mk [] []|d+1=>JQ d
theorem qWj (d:Nat)(l:List Lf):JQ d l=.mk (Yh l) (ZX (topT d) l (l.length+1) ByteArray.empty):=by
 cases d<;>rfl
theorem Vg:∀ (d:Nat) (l:List Lf),(∀ x∈l,x.1.length<=d)->LvOk l->(JQ d l).Ord/\∀ x,x∈(JQ d l).lvs []↔x∈l
 |d,l,hd,hl=>by
  rw[qWj]
  obtain⟨e1,e2,e3⟩:=qQu l
  obtain⟨k1,k2,k3⟩:=J2 (topT d) l (l.length+1) ByteArray.empty (by have:=qV7 l ByteArray.empty;omega)
  have hne:∀ q:ByteArray,q≠ByteArray.empty->ltS ByteArray.empty q=true:=fun q h=>by
   cases hq:ltS ByteArray.empty q
   ·exact absurd (ZW (JW q) hq) h
   ·rfl
  have ih:∀ k t,(k,t)∈ZX (topT d) l (l.length+1) ByteArray.empty->t.Ord/\(∀ x,x∈t.lvs []↔x∈Qu l k)/\∃ x,x∈Qu l k:=fun k t hm=>by
   obtain⟨h1,h2,x,hx,qs,h3⟩:=k2 k t hm
   have hu:((qs,x.2):Lf)∈Qu l k:=ZC.2 (by rw[←h3];exact hx)
   cases d with
   |zero=>have:=hd x hx;rw[h3]at this;simp at this
   |succ d=>
    obtain⟨i1,i2⟩:=Vg d (Qu l k) (fun y hy=>by have:=hd _ (ZC.1 hy);simp at this;exact this) (hl.under k)
    rw[h2];exact⟨i1,i2,_,hu⟩
  refine⟨Ord.mk' e1 k1 fun k t hm=>?_,fun x=>?_⟩
  ·obtain⟨i1,i2,x,hx⟩:=ih k t hm
   refine⟨fun e=>?_,?_,i1⟩
   ·have:=(k2 k t hm).1;rw[e,JW]at this;cases this
   ·cases he:t.empty
    ·rfl
    ·obtain⟨es,ks⟩:=t
     simp[Tr.empty]at he
     obtain⟨rfl,rfl⟩:=he
     have:=(i2 x).2 hx
     simp[Tr.lvs,Tr.lvsL]at this
  ·obtain⟨p,e⟩:=x
   cases p with
   |nil=>
    rw[Zs]
    constructor
    ·exact e2 e
    ·intro h
     obtain⟨e',he',hd'⟩:=e3 _ h rfl
     have:=hl.one _ (e2 e' he') _ h rfl hd'
     cases this;exact he'
   |cons k qs=>
    rw[Qt]
    constructor
    ·rintro⟨t,hm,h⟩
     exact ZC.1 (((ih k t hm).2.1 _).1 h)
    ·intro h
     have hm:=k3 _ h k qs rfl (hne k (hl.key _ h k (by simp)))
     exact⟨_,hm,((ih k _ hm).2.1 _).2 (ZC.2 h)⟩
theorem qXp {l:List Lf}(h:LvOk l):(QB l).Ord/\∀ x,x∈(QB l).lvs []↔x∈l:=Vg _ l (fun _ hx=>qY5 hx) h
theorem XG:∀ (t:Tr),t.Ord->LvOk (t.lvs []):=by
 intro t
 induction t using Tr.ind with
 |h es ks ih=>
 intro h
 obtain⟨h1,h2,h3⟩:=QS.1 h
 refine⟨fun x hx k hk=>?_,fun x hx y hy hp hd=>?_⟩
 ·rcases VV.1 hx with⟨hn,_⟩|⟨k',t,qs,hm,hq,hl⟩
  ·rw[hn]at hk;cases hk
  ·rw[hq]at hk
   rcases List.mem_cons.1 hk with rfl|hk
   ·exact (h3 _ t hm).1
   ·exact (ih k' t hm (h3 k' t hm).2.2).key _ hl k hk
 ·obtain⟨p,e⟩:=x
  obtain⟨p',e'⟩:=y
  simp only at hp hd;subst hp
  cases p with
  |nil=>
   have a:=Zs.1 hx
   have b:=Zs.1 hy
   have:e=e':=by
    clear hx hy h ih h2 h3
    induction es with
    |nil=>cases a
    |cons z es ih=>
     rw[List.pairwise_cons]at h1
     rcases List.mem_cons.1 a with a'|a'
     ·rcases List.mem_cons.1 b with b'|b'
      ·rw[a',b']
      ·have:=h1.1 _ b';rw[←hd,a',Yn]at this;cases this
     ·rcases List.mem_cons.1 b with b'|b'
      ·have:=h1.1 _ a';rw[hd,b',Yn]at this;cases this
      ·exact ih h1.2 a' b'
   rw[this]
  |cons k qs=>
   obtain⟨t,hm,ha⟩:=Qt.1 hx
   obtain⟨t',hm',hb⟩:=Qt.1 hy
   rw[XF h2 hm' hm]at hb
   have:=(ih k t hm (h3 k t hm).2.2).one _ ha _ hb rfl hd
   cases this;rfl
theorem VW {t:Tr}{l:List Lf}(h:t.Ord)(hl:LvOk l)(he:∀ x,x∈l↔x∈t.lvs []):QB l=t:=by
 obtain⟨h1,h2⟩:=qXp hl
 exact qWi _ _ h1 h fun x=>(h2 x).trans (he x)
def kidT (t:Tr)(s:ByteArray):Tr:=match t.ks.find? fun x=>decide (x.1=s) with|some x=>x.2|none=>.mk [] []
def getK (t:Tr)(p:List ByteArray):Tr:=p.foldl kidT t
theorem qXq:Tr.Ord (.mk [] []):=Ord.mk' .nil .nil fun _ _ h=>by cases h
theorem YY {t:Tr}(h:t.Ord){s:ByteArray}{u:Tr}(hm:(s,u)∈t.ks):kidT t s=u:=by
 obtain⟨es,ks⟩:=t
 unfold kidT
 cases hf:(Tr.mk es ks).ks.find? fun x=>decide (x.1=s) with
 |none=>
  have:=List.find?_eq_none.1 hf _ hm
  simp at this
 |some x=>
  have h1:=List.find?_some hf
  have h2:=List.mem_of_find?_eq_some hf
  simp at h1
  obtain⟨k,v⟩:=x
  simp only at h1;subst h1
  exact XF (QS.1 h).2.1 h2 hm
theorem YL {t:Tr}{s:ByteArray}(h:∀ u,(s,u)∉t.ks):kidT t s=.mk [] []:=by
 unfold kidT
 rw[List.find?_eq_none.2]
 rintro⟨k,u⟩ hm e
 simp at e;subst e
 exact h u hm
theorem ZO {t:Tr}(h:t.Ord)(s:ByteArray):(kidT t s).Ord:=by
 by_cases hm:∃ u,(s,u)∈t.ks
 ·obtain⟨u,hm⟩:=hm
  rw[YY h hm]
  obtain⟨es,ks⟩:=t
  exact ((QS.1 h).2.2 s u hm).2.2
 ·rw[YL fun u hu=>hm ⟨u,hu⟩];exact qXq
theorem XH {t:Tr}(h:t.Ord){s:ByteArray}{qs:List ByteArray}{e:En}:((qs,e):Lf)∈(kidT t s).lvs []↔((s :: qs,e):Lf)∈t.lvs []:=by
 obtain⟨es,ks⟩:=t
 rw[Qt]
 constructor
 ·intro hx
  by_cases hm:∃ u,(s,u)∈(Tr.mk es ks).ks
  ·obtain⟨u,hm⟩:=hm
   rw[YY h hm]at hx
   exact⟨u,hm,hx⟩
  ·rw[YL fun u hu=>hm ⟨u,hu⟩]at hx;simp[Tr.lvs,Tr.lvsL]at hx
 ·rintro⟨u,hm,hx⟩
  rw[YY h (show (s,u)∈(Tr.mk es ks).ks from hm)];exact hx
theorem qY8:∀ (p:List ByteArray) (l:List Lf) (t:Tr),t.Ord->LvOk l->(∀ x,x∈l↔x∈t.lvs [])->QB (getL l p)=getK t p
 |[],l,t,h,hl,he=>VW h hl he
 |s :: p,l,t,h,hl,he=>by
  show QB (getL (Qu l s) p)=getK (kidT t s) p
  exact qY8 p (Qu l s) (kidT t s) (ZO h s) (hl.under s) fun ⟨qs,e⟩=>by rw[ZC,he,XH h]
theorem J3 {t:Tr}(h:t.Ord)(p:List ByteArray):getT t p=getK t p:=qY8 p _ t h (XG t h) fun _=>Iff.rfl
theorem qY9 {s:ByteArray}:∀ {ks:List Kd}{x:Kd},ks.find? (fun x=>decide (x.1=s))=some x->x.2.sz<=Tr.szL ks
 |(k,t) :: ks,x,h=>by
  rw[Tr.szL]
  rw[List.find?_cons]at h
  split at h
  ·cases h;simp;omega
  ·have:=qY9 h;omega
theorem YM (t:Tr)(s:ByteArray):(kidT t s).sz<=t.sz:=by
 obtain⟨es,ks⟩:=t
 unfold kidT
 cases hf:(Tr.mk es ks).ks.find? fun x=>decide (x.1=s) with
 |none=>simp[Tr.sz,Tr.szL]
 |some x=>
  have:=qY9 (show ks.find? _=some x from hf)
  rw[Tr.sz];simp only;omega
theorem Vh {t:Tr}{n:Int}(h:t.right (n+1)=true)(hn:1<=n)(s:ByteArray):(kidT t s).right n=true:=by
 by_cases hm:∃ u,(s,u)∈t.ks
 ·obtain⟨u,hm⟩:=hm
  rw[YY (Zb t _ h) hm]
  obtain⟨es,ks⟩:=t
  rw[Tr.right,Bool.and_eq_true,Bool.and_eq_true]at h
  have:=((JX _ ks none h.2).2.2 s u hm).2.2
  simpa using this
 ·rw[YL fun u hu=>hm ⟨u,hu⟩]
  rw[Tr.right];simp[entsB,Tr.rightL];omega
theorem qJa:∀ (t:Tr) (n m:Int),t.right n=true->n<=m->t.right m=true:=by
 intro t
 induction t using Tr.ind with
 |h es ks ih=>
 intro n m h hnm
 rw[Tr.right,Bool.and_eq_true,Bool.and_eq_true,decide_eq_true_eq]at h ⊢
 refine⟨⟨by omega,h.1.2⟩,?_⟩
 have:∀ (p:Option ByteArray) (ks:List Kd),(∀ k t,(k,t)∈ks->∀ n m:Int,t.right n=true->n<=m->t.right m=true)->Tr.rightL p ks n=true->Tr.rightL p ks m=true:=by
  intro p ks
  induction ks generalizing p with
  |nil=>intro _ _;cases p<;>rfl
  |cons x ks ih'=>
   obtain⟨k,t⟩:=x
   intro hi h
   rw[Q6,Bool.and_eq_true,Bool.and_eq_true]at h ⊢
   exact⟨⟨h.1.1,hi k t (by simp) _ _ h.1.2 (by omega)⟩,ih' (some k) (fun k t hm=>hi k t (by simp[hm])) h.2⟩
 exact this none ks ih h.2
theorem Qo (w:World)(ok:Nat->Prop):(Tr.mk [] []).rda w ok (.slice none 0 0) (.slice none 0 0):=by
 rw[ZH]
 exact⟨⟨none,0,rfl,Nat.le_refl _,by simp,fun h=>absurd rfl h⟩,⟨none,0,rfl,Nat.le_refl _,by simp,fun h=>absurd rfl h⟩⟩
theorem box3 {w:World}{g:Nat}{x y z:Value}{e:TypeId}(hbx:w.heap[g]?=some (.cells #[x,y,z] e (0,0)))(a b c:Value) :
  (((w.setCell ⟨g,0,none⟩ a).setCell ⟨g,1,none⟩ b).setCell ⟨g,2,none⟩ c).cell? ⟨g,0,none⟩=some a/\(((w.setCell ⟨g,0,none⟩ a).setCell ⟨g,1,none⟩ b).setCell ⟨g,2,none⟩ c).cell? ⟨g,1,none⟩=some b/\(((w.setCell ⟨g,0,none⟩ a).setCell ⟨g,1,none⟩ b).setCell ⟨g,2,none⟩ c).cell? ⟨g,2,none⟩=some c /\
   (∀ k,k≠g->(((w.setCell ⟨g,0,none⟩ a).setCell ⟨g,1,none⟩ b).setCell ⟨g,2,none⟩ c).heap[k]?=w.heap[k]?)/\(((w.setCell ⟨g,0,none⟩ a).setCell ⟨g,1,none⟩ b).setCell ⟨g,2,none⟩ c).heap.size=w.heap.size:=by
 have hW:=Qe (i:=2) (Qe (i:=1) (Qe (i:=0) hbx a) b) c
 exact⟨(Qa (i:=0) hW).trans (by simp),(Qa (i:=1) hW).trans (by simp),(Qa (i:=2) hW).trans (by simp),
  fun k hk=>(Below.heap_setCell _ _ _ _ hk).trans ((Below.heap_setCell _ _ _ _ hk).trans (Below.heap_setCell _ _ _ _ hk)),by simp[World.setCell]⟩
def RetC (w:World)(t:Tr)(c:List Sp)(e:Ending)(w':World):Prop:=
 ∃ ve vk vc,e=.returned (.agg #[ve,vk,vc])/\t.rda w' (fun b=>w.heap.size<=b/\b<w'.heap.size) ve vk/\SlA w' (fun b=>w.heap.size<=b/\b<w'.heap.size) 3 SpE vc c/\Below w.heap.size w w'
theorem zZd {w:World}{p:List ByteArray}{x:En}{A:Option Addr}{c:Nat}{okq:Nat->Prop}{B:Nat}(h:SlP w w.heap.size 1 StE (.slice A p.length c) p)(hx:x.Ok)(hok:∀ b,b<w.heap.size->okq b)(e:TypeId)(hB:w.heap.size<B) :
  SlP (w.alloc (.cells #[.slice A p.length c,.int .i64 x.dc,.int .i64 x.n,.string x.s,.int .i64 x.v] e)) B 5 (LfA (w.alloc (.cells #[.slice A p.length c,.int .i64 x.dc,.int .i64 x.n,.string x.s,.int .i64 x.v] e)) okq) (.slice (some ⟨w.heap.size,0,none⟩) 1 1) [(p,x)]:=
 SlP.oneB (x:=(p,x)) (cs:=[.slice A p.length c,.int .i64 x.dc,.int .i64 x.n,.string x.s,.int .i64 x.v]) ⟨A,c,rfl,(Zn.1 h).up (fun _ hb=>Qg hb) (fun b hb=>hok b hb) (fun _ _ _ h=>h),hx⟩ rfl e rfl hB
theorem Vl (p:List ByteArray)(x:En)(c:List Sp)(vp vc:Value)(w:World)(hx:x.Ok)(hp:SlP w w.heap.size 1 StE vp p)(h:SlP w w.heap.size 3 SpE vc c)(hN:c.length<=50000)(hR:SpsOk c)(hR':SpsOk [⟨x.dc,x.n,x.n⟩]) :
  Calls Tryz.prog 60 #[vp,.agg #[.int .i64 x.dc,.int .i64 x.n,.string x.s,.int .i64 x.v],vc] w (RetC w (QB [(p,x)]) (ctxBy c [⟨x.dc,x.n,x.n⟩] 0)):=by
 obtain⟨Ap,cp,rfl,q1,q2,q3⟩:=hp
 have hp:SlP w w.heap.size 1 StE (.slice Ap p.length cp) p:=⟨Ap,cp,rfl,q1,q2,q3⟩
 obtain⟨A,n,rfl,p1,p2,p3⟩:=h
 have h:SlP w w.heap.size 3 SpE (.slice A c.length n) c:=⟨A,n,rfl,p1,p2,p3⟩
 have HB:Hid (∀ w',Below (w.heap.size+1+1) ((w.alloc (.cells #[.int .i64 x.dc,.int .i64 x.n,.string x.s,.int .i64 x.v] 92)).alloc (.cells #[.slice none 0 0,.slice none 0 0,.slice none 0 0] 29)) w'->Below w.heap.size w w'/\(w'.cell? ⟨w.heap.size,0,none⟩=some (.int .i64 x.dc)/\w'.cell? ⟨w.heap.size,1,none⟩=some (.int .i64 x.n)/\w'.cell? ⟨w.heap.size,2,none⟩=some (.string x.s)/\w'.cell? ⟨w.heap.size,3,none⟩=some (.int .i64 x.v))/\w'.heap[w.heap.size+1]?=some (.cells #[.slice none 0 0,.slice none 0 0,.slice none 0 0] 29 (0,0))/\SlP w' w'.heap.size 1 StE (.slice Ap p.length cp) p/\SlP w' w'.heap.size 3 SpE (.slice A c.length n) c/\w.heap.size+1+1<=w'.heap.size):=fun w' hb=>by
  have hB:Below w.heap.size w w':=(((Below.refl _ w).alloc (Nat.le_refl _) _).alloc (by simp) _).trans (hb.mono (by omega))
  refine⟨hB,⟨?_,?_,?_,?_⟩,?_,hp.imp hB hB.size (fun _ _ _ h=>h),h.imp hB hB.size (fun _ _ _ h=>h),by have:=hb.size;simpa using this⟩
  ·rw[hb.cell (p:=⟨w.heap.size,0,none⟩) (by simp;omega),World.cell?_alloc_past _ _ _ (by simp),World.cell?_alloc_new];rfl
  ·rw[hb.cell (p:=⟨w.heap.size,1,none⟩) (by simp;omega),World.cell?_alloc_past _ _ _ (by simp),World.cell?_alloc_new];rfl
  ·rw[hb.cell (p:=⟨w.heap.size,2,none⟩) (by simp;omega),World.cell?_alloc_past _ _ _ (by simp),World.cell?_alloc_new];rfl
  ·rw[hb.cell (p:=⟨w.heap.size,3,none⟩) (by simp;omega),World.cell?_alloc_past _ _ _ (by simp),World.cell?_alloc_new];rfl
  ·exact (hb.block (w.heap.size+1) (by omega)).trans (Qc (by simp))
 have HLC:Hid ((ctxBy c [⟨x.dc,x.n,x.n⟩] 0).length<=Big):=by have:=Zp c [⟨x.dc,x.n,x.n⟩] 0 4;unfold Hid ctxBy Big;simp at this;omega
 have HX:=hid hx
 have hb00:Below (w.heap.size+1+1) ((w.alloc (.cells #[.int .i64 x.dc,.int .i64 x.n,.string x.s,.int .i64 x.v] 92)).alloc (.cells #[.slice none 0 0,.slice none 0 0,.slice none 0 0] 29)) (World.drew ((w.alloc (.cells #[.int .i64 x.dc,.int .i64 x.n,.string x.s,.int .i64 x.v] 92)).alloc (.cells #[.slice none 0 0,.slice none 0 0,.slice none 0 0] 29))):=(Below.refl _ _).drew
 have HLF:Hid (Calls Tryz.prog 57 #[.slice (some ⟨w.heap.size+1+1,0,none⟩) 1 1] ((World.drew ((w.alloc (.cells #[.int .i64 x.dc,.int .i64 x.n,.string x.s,.int .i64 x.v] 92)).alloc (.cells #[.slice none 0 0,.slice none 0 0,.slice none 0 0] 29))).alloc (.cells #[.slice Ap p.length cp,.int .i64 x.dc,.int .i64 x.n,.string x.s,.int .i64 x.v] 102)) (RetT ((World.drew ((w.alloc (.cells #[.int .i64 x.dc,.int .i64 x.n,.string x.s,.int .i64 x.v] 92)).alloc (.cells #[.slice none 0 0,.slice none 0 0,.slice none 0 0] 29))).alloc (.cells #[.slice Ap p.length cp,.int .i64 x.dc,.int .i64 x.n,.string x.s,.int .i64 x.v] 102)) (QB [(p,x)]))):=
  Yy [(p,x)] _ _ (by
   have:=zZd (w:=World.drew ((w.alloc (.cells #[.int .i64 x.dc,.int .i64 x.n,.string x.s,.int .i64 x.v] 92)).alloc (.cells #[.slice none 0 0,.slice none 0 0,.slice none 0 0] 29))) (okq:=fun b=>b<((World.drew ((w.alloc (.cells #[.int .i64 x.dc,.int .i64 x.n,.string x.s,.int .i64 x.v] 92)).alloc (.cells #[.slice none 0 0,.slice none 0 0,.slice none 0 0] 29))).alloc (.cells #[.slice Ap p.length cp,.int .i64 x.dc,.int .i64 x.n,.string x.s,.int .i64 x.v] 102)).heap.size) (B:=((World.drew ((w.alloc (.cells #[.int .i64 x.dc,.int .i64 x.n,.string x.s,.int .i64 x.v] 92)).alloc (.cells #[.slice none 0 0,.slice none 0 0,.slice none 0 0] 29))).alloc (.cells #[.slice Ap p.length cp,.int .i64 x.dc,.int .i64 x.n,.string x.s,.int .i64 x.v] 102)).heap.size) (HB.out _ hb00).2.2.2.1 hx (fun b hb=>by rw[World.size_alloc];exact Nat.lt_succ_of_lt hb) 102 (by rw[World.size_alloc];exact Nat.lt_succ_self _)
   simpa using this) (by simp)
 have HB1:Hid (∀ w1,Below ((World.drew ((w.alloc (.cells #[.int .i64 x.dc,.int .i64 x.n,.string x.s,.int .i64 x.v] 92)).alloc (.cells #[.slice none 0 0,.slice none 0 0,.slice none 0 0] 29))).alloc (.cells #[.slice Ap p.length cp,.int .i64 x.dc,.int .i64 x.n,.string x.s,.int .i64 x.v] 102)).heap.size ((World.drew ((w.alloc (.cells #[.int .i64 x.dc,.int .i64 x.n,.string x.s,.int .i64 x.v] 92)).alloc (.cells #[.slice none 0 0,.slice none 0 0,.slice none 0 0] 29))).alloc (.cells #[.slice Ap p.length cp,.int .i64 x.dc,.int .i64 x.n,.string x.s,.int .i64 x.v] 102)) w1->Below (w.heap.size+1+1) ((w.alloc (.cells #[.int .i64 x.dc,.int .i64 x.n,.string x.s,.int .i64 x.v] 92)).alloc (.cells #[.slice none 0 0,.slice none 0 0,.slice none 0 0] 29)) w1):=fun w1 hb=>(hb00.alloc (by simp) _).trans (hb.mono (by simp))
 clear h hp q3 p3 hx hb00
 go_enter Tryz.func60,Tryz.ntmps60
 go_upto_region 1 with (fail)
 go_region_held3 (fun w'=>w'.cell? ⟨w.heap.size,0,none⟩=some (.int .i64 x.dc)/\w'.cell? ⟨w.heap.size,1,none⟩=some (.int .i64 x.n)/\w'.cell? ⟨w.heap.size,2,none⟩=some (.string x.s)/\w'.cell? ⟨w.heap.size,3,none⟩=some (.int .i64 x.v))
  (first|go_keep|exact (HB.out _ hb3.out).2.1|exact (HB.out _ hb2.out).2.1|exact (HB.out _ hb1.out).2.1)
  (first
      |(go_at_call 57;go_loud ((refine HLF.out.mono ?_);rintro e w1 ⟨ve1,vk1,rfl,hrd,hb⟩;obtain⟨Av,nv,Aw,nw,hv1,hv2⟩:=Qj hrd;subst hv1;subst hv2;have hb1:=hid (HB1.out w1 hb);have hbz:=hid hb;clear hb))
      |(go_at_call 107;go_loud ((refine (Vk x.dot w1 ⟨HX.out.dc,HX.out.n⟩).mono ?_);rintro e w2 ⟨v2,rfl,ho2,hb⟩;have hsl:=ho2.sl (by simp[Big]);obtain⟨A2,c2,hv2⟩:=ho2.shape;subst hv2;have hbt:=hid hb;have hb2:=hid (hb1.out.trans (hb.mono (HB.out _ hb1.out).2.2.2.2.2))))
      |(go_at_call 106;go_loud ((refine (YK c [⟨x.dc,x.n,x.n⟩] _ _ w2 (HB.out _ hb2.out).2.2.2.2.1 hsl hN (by simp) hR hR').mono ?_);rintro e w3 ⟨v3,rfl,ho3,hb⟩;obtain⟨A3,c3,hv3⟩:=ho3.shape;subst hv3;have hbu:=hid hb;have hb3:=hid (hb2.out.trans (hb.mono (HB.out _ hb2.out).2.2.2.2.2));have hg3:=hid (HB.out _ hb3.out).2.2.1;have k0:w3.cell? ⟨w.heap.size+1,0,none⟩=some (.slice none 0 0):=Qa (i:=0) hg3.out;have k1:w3.cell? ⟨w.heap.size+1,1,none⟩=some (.slice none 0 0):=Qa (i:=1) hg3.out;have k2:w3.cell? ⟨w.heap.size+1,2,none⟩=some (.slice none 0 0):=Qa (i:=2) hg3.out;have z0:=Qb (i:=0) hg3.out;have z1:=Qb (i:=1) hg3.out;have z2:=Qb (i:=2) hg3.out)))
 go_wp2_with fail
 obtain⟨r0,r1,r2,hK,hS⟩:=box3 hg3.out (.slice Av (QB [(p,x)]).es.length nv) (.slice Aw (QB [(p,x)]).ks.length nw) (.slice A3 (ctxBy c [⟨x.dc,x.n,x.n⟩] 0).length c3)
 have hs1:=(HB.out _ hb1.out).2.2.2.2.2
 have hs2:=hbt.out.size
 have hs3:=hbu.out.size
 have hBW:=((((HB.out _ hb3.out).1.setCell (p:=⟨w.heap.size+1,0,none⟩) (by simp) (.slice Av (QB [(p,x)]).es.length nv)).setCell (p:=⟨w.heap.size+1,1,none⟩) (by simp) (.slice Aw (QB [(p,x)]).ks.length nw)).setCell (p:=⟨w.heap.size+1,2,none⟩) (by simp) (.slice A3 (ctxBy c [⟨x.dc,x.n,x.n⟩] 0).length c3))
 refine bodyPost_ret (v:=.agg #[.slice Av (QB [(p,x)]).es.length nv,.slice Aw (QB [(p,x)]).ks.length nw,.slice A3 (ctxBy c [⟨x.dc,x.n,x.n⟩] 0).length c3]) (by simp[results,Tryz.results60,go_sem,r0,r1,r2]) rfl ⟨_,_,_,rfl,?_,?_,hBW⟩
 ·refine Qp (fun b hb=>?_) (fun b hb=>⟨by have:=hb.1;simp only[World.size_alloc,World.size_drew]at this;omega,by rw[hS];have:=hb.2;omega⟩) _ _ _ hrd
  have h1:=hb.1
  simp only[World.size_alloc,World.size_drew]at h1
  have h2:=hb.2
  exact (hK b (by omega)).trans ((hbu.out.block b (by omega)).trans (hbt.out.block b h2))
 ·exact (ho3.sla HLC.out).up (fun b hb=>hK b (by have:=hb.1;omega)) (fun b hb=>⟨by have:=hb.1;omega,by rw[hS];exact hb.2.1⟩) (fun _ _ _ h=>h)
end Go.Proofs.YtidebdbjekijkaaGreat
