/- What the laws need. No condition but those that each lemma states. -/
import Derived.Deep.LoopGhost
import Derived.Test.YtbcoelggdikipaaGreatUz2
import Derived.Test.YtbcoelggdikipaaGreatUz1
set_option maxRecDepth 100000
set_option maxHeartbeats 8000000
set_option linter.unusedSimpArgs false
namespace Go.Proofs.YtbcoelggdikipaaGreat
open Go.RowKit
theorem XK {α:Type}{P:Program}{ops:Array Oper}{o:Oper}{a:Act}{K:Act->World->Prop}{Q:Exit->Act->World->Prop}{F:Prop}{w:World}(hg:o.guard=none)(s x:Operand)(t:TypeId)
  (hop:o.op=.call { callee:=.builtin .append,args:=#[s,x],argTypes:=#[t,t] }){e:TypeId}{sz bytes base B:Nat}{E:α->List Value->Prop}{v sv:Value}{xs ys:List α}(hi:Qn P t e sz bytes) (hsz:0<sz) (hby:bytes<=1000)
  (hone:∀ x cs,E x cs->∀ u∈cs,u.oneCell'=true) (hs:a.eval s=v) (hown:OwnP w base e sz E v xs) (hx:a.eval x=sv) (hys:SlP w B sz E sv ys) (hl:xs.length+ys.length<=Few) (hbase:base<=w.heap.size)
  (h:∀ v' w',OwnP w' base e sz E v' (xs++ys)->Below base w w'->w.grownBy w' v.ownBlock->(v'.ownBlock=v.ownBlock∨v'.ownBlock=some w.heap.size)->K (a.put o.dst v') w') :
  if Region.wanted o (yielded ops a.tmps)=true then Oper.wp P o a w K Q else F:=by
 have hw:Region.wanted o (yielded ops a.tmps)=true:=by simp[Region.wanted,hg]
 rw[if_pos hw]
 unfold Few at hl
 obtain⟨v',w',r1,r2,r3,r4⟩:=Xj (P:=P) (ty:=o.type) hi hsz hone hown hys (Nat.le_trans (Nat.mul_le_mul hl hby) (by omega)) (by unfold Big;omega) hbase
 unfold Oper.wp execOp
 simp only[hop,resolve,invoke,builtin,Sem.run_bind,Sem.run_pure,Result.andThen_ok,List.map_toArray,List.map_cons,List.map_nil,hs,hx,r1]
 exact h v' w' r2 ((Below.refl base w).grown r3 hbase fun g hg=>(hown.lt g hg).1) r3 r4
structure Rows4 {α:Type}(w:World)(base Bp:Nat)(T e:TypeId)(sz:Nat)(E:α->List Value->Prop)(vs:Nat->Value)(ls:Nat->List α):Prop where
 arr:w.heap[Bp]?=some (.cells #[vs 0,vs 1,vs 2,vs 3] T (0,0))
 lo:Bp<base
 own:∀ i,i<4->OwnP w base e sz E (vs i) (ls i)
 apart:∀ i j,i<4->j<4->i≠j->∀ g,(vs i).ownBlock=some g->(vs j).ownBlock≠some g
section
variable {α:Type}{w w':World}{base Bp:Nat}{T e:TypeId}{sz:Nat}{E:α->List Value->Prop}{vs:Nat->Value}{ls:Nat->List α}
theorem QO {β:Type}(f:Nat->β){d:Nat}(h:d<4):(#[f 0,f 1,f 2,f 3]:Array β)[d]?=some (f d):=by
 match d,h with
 |0,_=>rfl
 |1,_=>rfl
 |2,_=>rfl
 |3,_=>rfl
theorem Xp {β:Type}(f:Nat->β){d:Nat}(h:d<4)(x:β):(#[f 0,f 1,f 2,f 3]:Array β).setIfInBounds d x =
  #[(fun i=>if i=d then x else f i) 0,(fun i=>if i=d then x else f i) 1,(fun i=>if i=d then x else f i) 2,(fun i=>if i=d then x else f i) 3]:=by
 match d,h with
 |0,_=>simp
 |1,_=>simp
 |2,_=>simp
 |3,_=>simp
theorem Rows4.start (h:w.heap[Bp]?=some (.cells #[.slice none 0 0,.slice none 0 0,.slice none 0 0,.slice none 0 0] T (0,0)))(hlo:Bp<base):Rows4 w base Bp T e sz E (fun _=>.slice none 0 0) (fun _=>([]:List α)):=
 ⟨h,hlo,fun _ _=>OwnP.nil,fun _ _ _ _ _ g hg=>by cases hg⟩
theorem Rows4.at (h:Rows4 w base Bp T e sz E vs ls){d:Nat}(hd:d<4):w.cell? ⟨Bp,d,none⟩=some (vs d):=(Qa h.arr).trans (QO vs hd)
theorem Rows4.frz (h:Rows4 w base Bp T e sz E vs ls)(d:Nat):w.frozen? ⟨Bp,d,none⟩=false:=Qb h.arr
theorem Rows4.grow (h:Rows4 w base Bp T e sz E vs ls)(hb:Below w.heap.size w w'):Rows4 w' base Bp T e sz E vs ls:=
 ⟨(hb.block _ (Array.getElem?_eq_some_iff.1 h.arr).1).trans h.arr,h.lo,fun i hi=>(h.own i hi).grow hb,h.apart⟩
theorem Rows4.same (h:Rows4 w base Bp T e sz E vs ls)(hb:w'.heap=w.heap):Rows4 w' base Bp T e sz E vs ls:=
 ⟨by rw[hb];exact h.arr,h.lo,fun i hi=>(h.own i hi).keep fun _ _=>by rw[hb],h.apart⟩
theorem Rows4.sl (h:Rows4 w base Bp T e sz E vs ls){d:Nat}(hd:d<4)(hl:(ls d).length<=Big):SlP w w.heap.size sz E (vs d) (ls d):=(h.own d hd).sl hl
theorem Rows4.put (h:Rows4 w base Bp T e sz E vs ls){d:Nat}(hd:d<4){v':Value}{xs:List α}(ho:OwnP w' base e sz E v' xs)(hg:w.grownBy w' (vs d).ownBlock)(hv:v'.ownBlock=(vs d).ownBlock∨v'.ownBlock=some w.heap.size) :
  Rows4 (w'.setCell ⟨Bp,d,none⟩ v') base Bp T e sz E (fun i=>if i=d then v' else vs i) (fun i=>if i=d then xs else ls i):=by
 have hBp:w'.heap[Bp]?=some (.cells #[vs 0,vs 1,vs 2,vs 3] T (0,0)):=
  (hg.block Bp (Array.getElem?_eq_some_iff.1 h.arr).1 (fun e=>by have:=(h.own d hd).lt Bp e.symm;have:=h.lo;omega)).trans h.arr
 refine⟨?_,h.lo,fun i hi=>?_,fun i j hi hj hij g hgi=>?_⟩
 ·rw[Qe hBp v',Xp vs hd v']
 ·by_cases e:i=d
  ·subst e;simp only[if_pos];exact ho.setOther h.lo v'
  ·simp only[if_neg e]
   refine ((h.own i hi).keep fun g hgi=>?_).setOther h.lo v'
   exact hg.block g ((h.own i hi).lt g hgi).2 (fun e'=>h.apart i d hi hd e g hgi e'.symm)
 ·by_cases e:i=d
  ·subst e
   simp only[if_pos]at hgi
   rw[if_neg (fun e'=>hij e'.symm)]
   intro hgj
   rcases hv with hv|hv
   ·rw[hv]at hgi;exact h.apart i j hi hj hij g hgi hgj
   ·rw[hv]at hgi;cases hgi;exact absurd ((h.own j hj).lt _ hgj).2 (Nat.lt_irrefl _)
  ·simp only[if_neg e]at hgi
   by_cases e2:j=d
   ·subst e2
    rw[if_pos rfl]
    intro hgj
    rcases hv with hv|hv
    ·rw[hv]at hgj;exact h.apart i j hi hj hij g hgi hgj
    ·rw[hv]at hgj;cases hgj;exact absurd ((h.own i hi).lt _ hgi).2 (Nat.lt_irrefl _)
   ·rw[if_neg e2];exact h.apart i j hi hj hij g hgi
end
theorem SlA.shape {α:Type}{w:World}{ok:Nat->Prop}{sz:Nat}{E:α->List Value->Prop}{v:Value}{xs:List α}(h:SlA w ok sz E v xs):∃ A c,v=.slice A xs.length c:=by
 obtain⟨A,c,rfl,_⟩:=h;exact⟨A,c,rfl⟩
theorem SlA.slp {α:Type}{w w':World}{ok:Nat->Prop}{sz:Nat}{E:α->List Value->Prop}{v:Value}{xs:List α}(h:SlA w ok sz E v xs)(hk:∀ b,ok b->b<w.heap.size)(hb:Below w.heap.size w w'):SlP w' w'.heap.size sz E v xs:=
 Xl.2 (h.up (fun b hb'=>hb.block b (hk b hb')) (fun b hb'=>Nat.lt_of_lt_of_le (hk b hb') hb.size) (fun _ _ _ h=>h))
theorem XL {w w':World}{ok:Nat->Prop}{t:Tr}{ve vk:Value}(h:t.rda w ok ve vk)(hk:∀ b,ok b->b<w.heap.size)(hb:Below w.heap.size w w'):t.rd w' w'.heap.size ve vk:=
 (qQ1 t ve vk).2 (Zi (fun b hb'=>hb.block b (hk b hb')) (fun b hb'=>Nat.lt_of_lt_of_le (hk b hb') hb.size) t ve vk h)
def dcsOk:Int->List Sp->Bool
 |_,[]=>true
 |last,s :: c=>decide (last<=s.dc)&&decide (s.dc<4)&&dcsOk s.dc c
def Qm (c:List Sp):Bool:=dcsOk 0 c&&(List.range 4).all fun (dc:Nat)=>runsR none (partL c dc)
def RetA (w:World)(c:List Sp)(e:Ending)(w':World):Prop:=
 ∃ vs:Nat->Value,e=.returned (.tuple #[.agg #[vs 0,vs 1,vs 2,vs 3],.bool (Qm c)])/\(∀ i,i<4->SlA w' (fun b=>w.heap.size<=b/\b<w'.heap.size) 2 RuE (vs i) (if Qm c then partL c i else []))/\Below w.heap.size w w'
def ApA (c:List Sp)(w:World)(k:Nat)(wr:World):Prop:=
 ∃ vs:Nat->Value,Rows4 wr (w.heap.size+2) (w.heap.size+1) 162 167 2 RuE vs (fun i=>partL (c.take k) i) /\
  wr.heap[w.heap.size]?=some (.cells #[.slice none 0 0,.slice none 0 0,.slice none 0 0,.slice none 0 0] 162 (0,0))/\Below w.heap.size w wr
theorem ZJ (c:List Sp)(vc:Value)(w:World)(h:SlP w w.heap.size 3 SpE vc c)(hN:c.length<=900000) :
  Calls Tryz.prog 133 #[vc] w (RetA w c):=by
 obtain⟨A,n,rfl,b1,b2,b3⟩:=h
 unfold Big at b2
 go_enter Tryz.func133,Tryz.ntmps133
 go_wp2_with fail
 go_loopw [5,12] (fun l i wr=>∃ (k:Nat) (L:Int),k<=c.length/\i=.int .i64 k/\l=.int .i64 L/\0<=L/\L<=4/\Hid (dcsOk L (c.drop k)=dcsOk 0 c)/\ApA c w k wr) (fun _ i _=>c.length-(intOf i).toNat)
 case atStart=>
  refine⟨0,0,Nat.zero_le _,rfl,rfl,by omega,by omega,rfl,fun _=>.slice none 0 0,Rows4.start (Qf (by simp)) (by omega),?_,((Below.refl _ w).alloc (Nat.le_refl _) _).alloc (by simp) _⟩
  rw[Qh (by simp)];exact Qf rfl
 case round=>
  obtain⟨k,L,hk,rfl,rfl,hL0,hL1,hrel,vs,hr4,hg2,hb⟩:=hrel
  have hsz:=hb.size
  have hsz2:w.heap.size+1<wr.heap.size:=(Array.getElem?_eq_some_iff.1 hr4.arr).1
  have hsz3:w.heap.size<wr.heap.size:=by omega
  have hsz4:w.heap.size≠wr.heap.size:=by omega
  have hsz5:w.heap.size+1≠wr.heap.size:=by omega
  by_cases hlt:k<c.length
  ·obtain⟨⟨dc,fr,hi⟩,hx⟩:∃ x,c[k]?=some x:=⟨_,List.getElem?_eq_getElem hlt⟩
   obtain⟨b,off,rfl,hbB,hc⟩:=b3 (by rintro rfl;simp at hlt)
   obtain⟨cs,⟨rfl,hok⟩,_,hu⟩:=hc k _ hx
   have e0:wr.cell? ⟨b,off+k*3,none⟩=some (.int .i64 dc):=(hb.cell hbB).trans (hu 0 _ rfl)
   have e1:wr.cell? ⟨b,off+k*3+1,none⟩=some (.int .i64 fr):=(hb.cell hbB).trans (hu 1 _ rfl)
   have e2:wr.cell? ⟨b,off+k*3+2,none⟩=some (.int .i64 hi):=(hb.cell hbB).trans (hu 2 _ rfl)
   have HD:Hid (dcsOk 0 c=(decide (L<=dc)&&decide (dc<4)&&dcsOk dc (c.drop (k+1)))):=by
    have:=hrel.out
    rw[QA hx]at this
    exact this.symm
   have HG:=hid hg2
   have HR4:=hid hr4
   have HP:∀ (d:Nat),(dc=(d:Int))->Hid ((fun i:Nat=>partL (c.take (k+1)) i)=fun i=>if i=d then partL (c.take k) d++[(fr,hi)] else partL (c.take k) i):=fun d hd=>by
    unfold Hid;funext i
    rw[YZ hx]
    by_cases e:i=d
    ·subst e;rw[if_pos rfl,if_pos (by exact hd)]
    ·rw[if_neg e,if_neg (by show ¬dc=(i:Int);omega),List.append_nil]
   have hpl:=Qs (c.take k)
   clear hu hx hc b3 hrel hg2 hr4
   by_cases h1:dc<L∨4<=dc
   ·have HF:Hid (Qm c=false):=by
     unfold Hid Qm
     rw[HD.out]
     rcases h1 with h1|h1
     ·rw[show decide (L<=dc)=false by simp;omega];simp
     ·rw[show decide (dc<4)=false by simp;omega];simp
    have z0:=Qb (i:=0) HG.out
    have z1:=Qb (i:=1) HG.out
    have z2:=Qb (i:=2) HG.out
    have z3:=Qb (i:=3) HG.out
    have c0:wr.cell? ⟨w.heap.size,0,none⟩=some (.slice none 0 0):=Qa (i:=0) HG.out
    have c1:wr.cell? ⟨w.heap.size,1,none⟩=some (.slice none 0 0):=Qa (i:=1) HG.out
    have c2:wr.cell? ⟨w.heap.size,2,none⟩=some (.slice none 0 0):=Qa (i:=2) HG.out
    have c3:wr.cell? ⟨w.heap.size,3,none⟩=some (.slice none 0 0):=Qa (i:=3) HG.out
    have hz:=HG
    have hBz:=hb
    by_cases h2:dc<L
    ·go_wp2_with fail
     have hW0:=Qe (i:=3) (Qe (i:=2) (Qe (i:=1) (Qe (i:=0) hz.out (.slice none 0 0)) (.slice none 0 0)) (.slice none 0 0)) (.slice none 0 0)
     have hBW:Below w.heap.size w ((((((wr).setCell ⟨w.heap.size,0,none⟩ (.slice none 0 0)).setCell ⟨w.heap.size,1,none⟩ (.slice none 0 0)).setCell ⟨w.heap.size,2,none⟩ (.slice none 0 0)).setCell ⟨w.heap.size,3,none⟩ (.slice none 0 0))):=(((hBz.setCell (Nat.le_refl _) _).setCell (Nat.le_refl _) _).setCell (Nat.le_refl _) _).setCell (Nat.le_refl _) _
     clear c0 c1 c2 c3 z0 z1 z2 z3
     generalize (((((wr).setCell ⟨w.heap.size,0,none⟩ (.slice none 0 0)).setCell ⟨w.heap.size,1,none⟩ (.slice none 0 0)).setCell ⟨w.heap.size,2,none⟩ (.slice none 0 0)).setCell ⟨w.heap.size,3,none⟩ (.slice none 0 0))=W at *
     have hWs:w.heap.size<W.heap.size:=(Array.getElem?_eq_some_iff.1 hW0).1
     have r0:(W.alloc (.cells #[.int .i64 dc,.int .i64 fr,.int .i64 hi] 45)).cell? ⟨w.heap.size,0,none⟩=some (.slice none 0 0):=(Qa (i:=0) (((Qh hWs).trans) hW0)).trans (by simp)
     have r1:(W.alloc (.cells #[.int .i64 dc,.int .i64 fr,.int .i64 hi] 45)).cell? ⟨w.heap.size,1,none⟩=some (.slice none 0 0):=(Qa (i:=1) (((Qh hWs).trans) hW0)).trans (by simp)
     have r2:(W.alloc (.cells #[.int .i64 dc,.int .i64 fr,.int .i64 hi] 45)).cell? ⟨w.heap.size,2,none⟩=some (.slice none 0 0):=(Qa (i:=2) (((Qh hWs).trans) hW0)).trans (by simp)
     have r3:(W.alloc (.cells #[.int .i64 dc,.int .i64 fr,.int .i64 hi] 45)).cell? ⟨w.heap.size,3,none⟩=some (.slice none 0 0):=(Qa (i:=3) (((Qh hWs).trans) hW0)).trans (by simp)
     have hBX:Below w.heap.size w (W.alloc (.cells #[.int .i64 dc,.int .i64 fr,.int .i64 hi] 45)):=(fun h=>h.alloc (by omega) _) hBW
     refine bodyPost_ret (v:=.tuple #[.agg #[.slice none 0 0,.slice none 0 0,.slice none 0 0,.slice none 0 0],.bool false]) (by simp[results,Tryz.results133,go_sem,r0,r1,r2,r3]) rfl ⟨fun _=>.slice none 0 0,by rw[HF.out],fun i _=>by rw[HF.out];exact⟨none,0,rfl,Nat.le_refl _,by simp,fun h=>absurd rfl h⟩,hBX⟩
    ·have h4:4<=dc:=by omega
     go_wp2_with fail
     have hW0:=Qe (i:=3) (Qe (i:=2) (Qe (i:=1) (Qe (i:=0) hz.out (.slice none 0 0)) (.slice none 0 0)) (.slice none 0 0)) (.slice none 0 0)
     have hBW:Below w.heap.size w ((((((wr).setCell ⟨w.heap.size,0,none⟩ (.slice none 0 0)).setCell ⟨w.heap.size,1,none⟩ (.slice none 0 0)).setCell ⟨w.heap.size,2,none⟩ (.slice none 0 0)).setCell ⟨w.heap.size,3,none⟩ (.slice none 0 0))):=(((hBz.setCell (Nat.le_refl _) _).setCell (Nat.le_refl _) _).setCell (Nat.le_refl _) _).setCell (Nat.le_refl _) _
     clear c0 c1 c2 c3 z0 z1 z2 z3
     generalize (((((wr).setCell ⟨w.heap.size,0,none⟩ (.slice none 0 0)).setCell ⟨w.heap.size,1,none⟩ (.slice none 0 0)).setCell ⟨w.heap.size,2,none⟩ (.slice none 0 0)).setCell ⟨w.heap.size,3,none⟩ (.slice none 0 0))=W at *
     have hWs:w.heap.size<W.heap.size:=(Array.getElem?_eq_some_iff.1 hW0).1
     have r0:(W.alloc (.cells #[.int .i64 dc,.int .i64 fr,.int .i64 hi] 45)).cell? ⟨w.heap.size,0,none⟩=some (.slice none 0 0):=(Qa (i:=0) (((Qh hWs).trans) hW0)).trans (by simp)
     have r1:(W.alloc (.cells #[.int .i64 dc,.int .i64 fr,.int .i64 hi] 45)).cell? ⟨w.heap.size,1,none⟩=some (.slice none 0 0):=(Qa (i:=1) (((Qh hWs).trans) hW0)).trans (by simp)
     have r2:(W.alloc (.cells #[.int .i64 dc,.int .i64 fr,.int .i64 hi] 45)).cell? ⟨w.heap.size,2,none⟩=some (.slice none 0 0):=(Qa (i:=2) (((Qh hWs).trans) hW0)).trans (by simp)
     have r3:(W.alloc (.cells #[.int .i64 dc,.int .i64 fr,.int .i64 hi] 45)).cell? ⟨w.heap.size,3,none⟩=some (.slice none 0 0):=(Qa (i:=3) (((Qh hWs).trans) hW0)).trans (by simp)
     have hBX:Below w.heap.size w (W.alloc (.cells #[.int .i64 dc,.int .i64 fr,.int .i64 hi] 45)):=(fun h=>h.alloc (by omega) _) hBW
     refine bodyPost_ret (v:=.tuple #[.agg #[.slice none 0 0,.slice none 0 0,.slice none 0 0,.slice none 0 0],.bool false]) (by simp[results,Tryz.results133,go_sem,r0,r1,r2,r3]) rfl ⟨fun _=>.slice none 0 0,by rw[HF.out],fun i _=>by rw[HF.out];exact⟨none,0,rfl,Nat.le_refl _,by simp,fun h=>absurd rfl h⟩,hBX⟩
   ·obtain⟨d,rfl⟩:∃ d:Nat,dc=(d:Int):=⟨dc.toNat,by omega⟩
    have hd4:d<4:=by omega
    have hdi:(d:Int)<4:=by omega
    have hdL:L<=(d:Int):=by omega
    have HDR:Hid (dcsOk (d:Int) (c.drop (k+1))=dcsOk 0 c):=by
     unfold Hid;rw[HD.out,show decide (L<=(d:Int))=true by simp;omega,show decide ((d:Int)<4)=true by simp;omega];rfl
    have HPD:=HP d rfl
    have HL:Hid ((partL (c.take k) d).length + [(fr,hi)].length<=Few):=by have:=hpl d;rw[List.length_take]at this;unfold Hid Few;simp;omega
    have HRE:Hid (RuE (fr,hi) [.int .i64 fr,.int .i64 hi]):=⟨rfl,hok.fr,hok.hi⟩
    have hbp:wr.cell? ⟨w.heap.size+1,d,none⟩=some (vs d):=HR4.out.at hd4
    have HOWN:Hid (∀ W,Below wr.heap.size wr W->OwnP W (w.heap.size+2) 167 2 RuE (vs d) (partL (c.take k) d)):=fun W hW=>(HR4.out.own d hd4).grow hW
    have HLT:=hid ((HR4.out.own d hd4).lt)
    have HGB:Hid (∀ W3 w4,Below wr.heap.size wr W3->W3.grownBy w4 (vs d).ownBlock->∀ b,b<w.heap.size+2->w4.heap[b]?=wr.heap[b]?):=fun W3 w4 h3 h4 b hb=>
     (h4.block b (by have:=h3.size;omega) (fun e=>by have:=HLT.out b e.symm;omega)).trans (h3.block b (by omega))
    clear HP hpl h1 hok HD
    go_wp2_with fail
    refine QU (S:=fun w'=>w'.cell? ⟨wr.heap.size,0,none⟩=some (.int .i64 (d:Int))/\w'.cell? ⟨wr.heap.size,1,none⟩=some (.int .i64 fr)/\w'.cell? ⟨wr.heap.size,2,none⟩=some (.int .i64 hi)/\w'.cell? ⟨w.heap.size+1,d,none⟩=some (vs d)) 14 (by kernel_rfl) (by kernel_rfl) ?_
    simp only[List.take_succ_cons,List.take_zero,List.drop_succ_cons,List.drop_zero]
    have hHeld:(fun w':World=>w'.cell? ⟨wr.heap.size,0,none⟩=some (.int .i64 (d:Int))/\w'.cell? ⟨wr.heap.size,1,none⟩=some (.int .i64 fr)/\w'.cell? ⟨wr.heap.size,2,none⟩=some (.int .i64 hi)/\w'.cell? ⟨w.heap.size+1,d,none⟩=some (vs d)) (wr.alloc (.cells #[.int .i64 (d:Int),.int .i64 fr,.int .i64 hi] 45)).drew:=by go_keep
    refine wpAnyH_take (i:=0) (oi:=_) (v:=?v0) rfl (by kernel_rfl) (by kernel_rfl) (by kernel_rfl) (fun _ _ _ h=>h) (Or.inl ⟨by rfl,?h0⟩) (by assumption) ?_
    case h0=>(intro w hSw;(try dsimp only at hSw);go_simp;(try with_reducible rfl))
    simp only[Act.put,List.setIfInBounds_toArray]
    refine wpAnyH_take (i:=1) (oi:=_) (v:=?v1) rfl (by kernel_rfl) (by kernel_rfl) (by kernel_rfl) (fun _ _ _ h=>h) (Or.inl ⟨by rfl,?h1⟩) (by assumption) ?_
    case h1=>(intro w hSw;(try dsimp only at hSw);go_simp;(try with_reducible rfl))
    simp only[Act.put,List.setIfInBounds_toArray]
    refine wpAnyH_take (i:=2) (oi:=_) (v:=?v2) rfl (by kernel_rfl) (by kernel_rfl) (by kernel_rfl) (fun _ _ _ h=>h) (Or.inl ⟨by rfl,?h2⟩) (by assumption) ?_
    case h2=>(intro w hSw;(try dsimp only at hSw);go_simp;(try with_reducible rfl))
    simp only[Act.put,List.setIfInBounds_toArray]
    refine wpAnyH_take (i:=3) (oi:=_) (v:=?v3) rfl (by kernel_rfl) (by kernel_rfl) (by kernel_rfl) (fun _ _ _ h=>h) (Or.inl ⟨by rfl,?h3⟩) (by assumption) ?_
    case h3=>(intro w hSw;(try dsimp only at hSw);go_simp;(try with_reducible rfl))
    simp only[Act.put,List.setIfInBounds_toArray]
    refine wpAnyH_take (i:=4) (oi:=_) (v:=?v4) rfl (by kernel_rfl) (by kernel_rfl) (by kernel_rfl) (fun _ _ _ h=>h) (Or.inl ⟨by rfl,?h4⟩) (by assumption) ?_
    case h4=>(intro w hSw;(try dsimp only at hSw);go_simp;(try with_reducible rfl))
    simp only[Act.put,List.setIfInBounds_toArray]
    refine wpAnyH_take (i:=5) (oi:=_) (v:=?v5) rfl (by kernel_rfl) (by kernel_rfl) (by kernel_rfl) (fun _ _ _ h=>h) (Or.inl ⟨by rfl,?h5⟩) (by assumption) ?_
    case h5=>(intro w hSw;(try dsimp only at hSw);go_simp;(try with_reducible rfl))
    simp only[Act.put,List.setIfInBounds_toArray]
    refine wpAnyH_take (i:=6) (oi:=_) (v:=?v6) rfl (by kernel_rfl) (by kernel_rfl) (by kernel_rfl) (fun _ _ _ h=>h) (Or.inl ⟨by rfl,?h6⟩) (by assumption) ?_
    case h6=>(intro w hSw;(try dsimp only at hSw);go_simp;(try with_reducible rfl))
    simp only[Act.put,List.setIfInBounds_toArray]
    refine wpAnyH_take (i:=7) (oi:=_) (v:=?v7) rfl (by kernel_rfl) (by kernel_rfl) (by kernel_rfl) (fun _ _ _ h=>h) (Or.inl ⟨by rfl,?h7⟩) (by assumption) ?_
    case h7=>(intro w hSw;(try dsimp only at hSw);go_simp;(try with_reducible rfl))
    simp only[Act.put,List.setIfInBounds_toArray]
    refine wpAnyH_take (i:=8) (oi:=_) (v:=?v8) rfl (by kernel_rfl) (by kernel_rfl) (by kernel_rfl) (fun _ _ _ h=>h) (Or.inl ⟨by rfl,?h8⟩) (by assumption) ?_
    case h8=>(intro w hSw;(try dsimp only at hSw);go_simp;(try with_reducible rfl))
    simp only[Act.put,List.setIfInBounds_toArray]
    refine wpAnyH_take (i:=9) (oi:=_) (v:=?v9) rfl (by kernel_rfl) (by kernel_rfl) (by kernel_rfl) (fun _ _ _ h=>h) (Or.inl ⟨by rfl,?h9⟩) (by assumption) ?_
    case h9=>(intro w hSw;(try dsimp only at hSw);go_simp;(try with_reducible rfl))
    simp only[Act.put,List.setIfInBounds_toArray]
    refine wpAnyH_take (i:=10) (oi:=_) (v:=?v10) rfl (by kernel_rfl) (by kernel_rfl) (by kernel_rfl) (fun _ _ _ h=>h) (Or.inl ⟨by rfl,?h10⟩) (by assumption) ?_
    case h10=>(intro w hSw;(try dsimp only at hSw);go_simp;(try with_reducible rfl))
    simp only[Act.put,List.setIfInBounds_toArray]
    refine wpAnyH_ready (rs:=[11]) (by kernel_rfl) (by simp) ?_
    refine AllReadyH.cons (o:=_) rfl (fun K hK=>?_) AllReadyH.nil
    go_simp
    refine hK.out _ _ ?_ (fun hHeld11=>?_)
    ·go_keep
    clear hK K
    simp only[List.setIfInBounds_toArray]
    refine wpAnyH_ready (rs:=[12]) (by kernel_rfl) (by simp) ?_
    refine AllReadyH.cons (o:=_) rfl (fun K hK=>?_) AllReadyH.nil
    (refine XK (v:=vs d) rfl (.tmp 33) (.tmp 39) _ rfl eiRun (by decide) (by decide) (fun _ _ h=>h.one) rfl (HOWN.out _ ((((Below.refl wr.heap.size wr).alloc (Nat.le_refl _) _).drew).alloc (by simp) _)) rfl (SlP.one (x:=(fr,hi)) HRE.out rfl _ (by simp)) HL.out (by simp;omega) ?_;intro v1 w4 hown4 hb4 hg4 hv4;have hsh4:=OwnP.shape hown4;simp only[List.length_append,List.length_singleton]at hsh4;obtain⟨A1,c1,hv1⟩:=hsh4;subst hv1;have hg4h:=hid (HGB.out _ _ ((((Below.refl wr.heap.size wr).alloc (Nat.le_refl _) _).drew).alloc (by simp) _) hg4);have hc4:w4.cell? ⟨w.heap.size+1,d,none⟩=some (vs d):=(Qa ((hg4h.out _ (by omega)).trans HR4.out.arr)).trans (QO vs hd4);have hf4:w4.frozen? ⟨w.heap.size+1,d,none⟩=false:=Qb ((hg4h.out _ (by omega)).trans HR4.out.arr);have hx3:=(hg4.block wr.heap.size (by simp;omega) (fun e=>by have:=HLT.out _ e.symm;omega)).trans ((Qh (by simp)).trans (Qf (o:=.cells #[.int .i64 (d:Int),.int .i64 fr,.int .i64 hi] 45) rfl));have hx4:Hid (w4.cell? ⟨wr.heap.size,0,none⟩=some (.int .i64 (d:Int))/\w4.cell? ⟨wr.heap.size,1,none⟩=some (.int .i64 fr)/\w4.cell? ⟨wr.heap.size,2,none⟩=some (.int .i64 hi)/\w4.cell? ⟨w.heap.size+1,d,none⟩=some (vs d)):=⟨(Qa (i:=0) hx3).trans rfl,(Qa (i:=1) hx3).trans rfl,(Qa (i:=2) hx3).trans rfl,hc4⟩;clear hx3)
    refine hK.out _ _ ?_ (fun hHeld12=>?_)
    ·exact hx4.out
    clear hK K
    simp only[Act.put,List.setIfInBounds_toArray]
    refine wpAnyH_take (i:=13) (oi:=_) (v:=?v13) rfl (by kernel_rfl) (by kernel_rfl) (by kernel_rfl) (fun _ _ _ h=>h) (Or.inl ⟨by rfl,?h13⟩) (by assumption) ?_
    case h13=>(intro w hSw;(try dsimp only at hSw);go_simp;(try with_reducible rfl))
    simp only[Act.put,List.setIfInBounds_toArray]
    refine wpAnyH_done (by kernel_rfl) ?_ _
    change wpList _ _ _ _ _ _
    go_wp2_with fail
    go_roundw
    case rel=>
     refine⟨k+1,(d:Int),by omega,by go_num,rfl,by omega,by omega,HDR.out,fun i=>if i=d then .slice A1 ((partL (c.take k) d).length+1) c1 else vs i,?_,?_,?_⟩
     ·rw[HPD.out]
      exact Rows4.put (w:=((wr.alloc (.cells #[.int .i64 (d:Int),.int .i64 fr,.int .i64 hi] 45)).alloc (.cells #[.int .i64 fr,.int .i64 hi] 167)).drew) (((HR4.out.grow ((Below.refl _ wr).alloc (Nat.le_refl _) _)).grow ((Below.refl _ _).alloc (Nat.le_refl _) _)).same rfl) hd4 hown4 hg4 hv4
     ·exact (Below.heap_setCell _ _ _ _ (by simp)).trans ((hg4h.out _ (by omega)).trans HG.out)
     ·exact (((((hb.alloc hsz _).drew).alloc (by simp;omega) _).trans (hb4.mono (by omega))).setCell (by simp) _)
    case measure=>simp[intOf];omega
  ·obtain rfl:k=c.length:=by omega
   rw[List.take_of_length_le (Nat.le_refl _)]at hr4
   have c0:wr.cell? ⟨w.heap.size+1,0,none⟩=some (vs 0):=hr4.at (by omega)
   have c1:wr.cell? ⟨w.heap.size+1,1,none⟩=some (vs 1):=hr4.at (by omega)
   have c2:wr.cell? ⟨w.heap.size+1,2,none⟩=some (vs 2):=hr4.at (by omega)
   have c3:wr.cell? ⟨w.heap.size+1,3,none⟩=some (vs 3):=hr4.at (by omega)
   have HR:=hid hr4
   have HG:=hid hg2
   have hD:dcsOk 0 c=true:=by rw[←hrel.out];simp[dcsOk]
   have HD:=hid hD
   clear hr4 hg2 hrel hD b3
   go_wp2_with fail
   obtain⟨wo,rfl⟩:∃ wo:World,wo=wr:=⟨_,rfl⟩
   go_loopw [44] (fun i wr=>∃ k:Nat,k<=4/\i=.int .i64 k/\Hid ((List.range k).all (fun (dc:Nat)=>runsR none (partL c dc))=true)/\Below wo.heap.size wo wr) (fun i _=>4-(intOf i).toNat)
   case atStart=>exact⟨0,by omega,rfl,rfl,Below.refl _ _⟩
   case round=>
    obtain⟨k,hk,rfl,hrel,hbi⟩:=hrel
    have hsi:=hbi.size
    by_cases hk4:k<4
    ·have hidx:∀ w,(Instr.index 162 (.agg #[vs 0,vs 1,vs 2,vs 3]) (.int .i64 (k:Int))).run Tryz.prog w=.ok (vs k) w:=fun w=>by
      match k,hk4 with
      |0,_=>rfl
      |1,_=>rfl
      |2,_=>rfl
      |3,_=>rfl
     have HSL:Hid (SlP wr wr.heap.size 2 RuE (vs k) (partL c k)):=(HR.out.sl hk4 (by have:=Qs c k;unfold Big;omega)).imp hbi hsi fun _ _ _ h=>h
     have hz4:w.heap.size<wo.heap.size:=by omega
     cases hq:runsR none (partL c k)
     ·have HF:Hid (Qm c=false):=by
       unfold Hid Qm
       have:(List.range 4).all (fun (dc:Nat)=>runsR none (partL c dc))=false:=by
        rw[List.all_eq_false];exact⟨k,by simpa using hk4,by rw[hq];simp⟩
       rw[this];simp
      have HQ:=hid hq
      clear hq c0 c1 c2 c3
      go_wp2_with (go_at_call 168;refine (Q6 (partL c k) (vs k) wr HSL.out).mono ?_;rw[HQ.out];rintro e w1 ⟨rfl,hb1⟩;have hz:=hid ((hb1.block w.heap.size (by omega)).trans ((hbi.block w.heap.size hz4).trans HG.out));have hBz:=(hb.trans (hbi.mono hsz)).trans (hb1.mono (by omega));have z0:=Qb (i:=0) hz.out;have z1:=Qb (i:=1) hz.out;have z2:=Qb (i:=2) hz.out;have z3:=Qb (i:=3) hz.out;have c0:w1.cell? ⟨w.heap.size,0,none⟩=some (.slice none 0 0):=Qa (i:=0) hz.out;have c1:w1.cell? ⟨w.heap.size,1,none⟩=some (.slice none 0 0):=Qa (i:=1) hz.out;have c2:w1.cell? ⟨w.heap.size,2,none⟩=some (.slice none 0 0):=Qa (i:=2) hz.out;have c3:w1.cell? ⟨w.heap.size,3,none⟩=some (.slice none 0 0):=Qa (i:=3) hz.out)
      go_wp2_with fail
      have hW0:=Qe (i:=3) (Qe (i:=2) (Qe (i:=1) (Qe (i:=0) hz.out (.slice none 0 0)) (.slice none 0 0)) (.slice none 0 0)) (.slice none 0 0)
      have hBW:Below w.heap.size w ((((((w1).setCell ⟨w.heap.size,0,none⟩ (.slice none 0 0)).setCell ⟨w.heap.size,1,none⟩ (.slice none 0 0)).setCell ⟨w.heap.size,2,none⟩ (.slice none 0 0)).setCell ⟨w.heap.size,3,none⟩ (.slice none 0 0))):=(((hBz.setCell (Nat.le_refl _) _).setCell (Nat.le_refl _) _).setCell (Nat.le_refl _) _).setCell (Nat.le_refl _) _
      clear c0 c1 c2 c3 z0 z1 z2 z3
      generalize (((((w1).setCell ⟨w.heap.size,0,none⟩ (.slice none 0 0)).setCell ⟨w.heap.size,1,none⟩ (.slice none 0 0)).setCell ⟨w.heap.size,2,none⟩ (.slice none 0 0)).setCell ⟨w.heap.size,3,none⟩ (.slice none 0 0))=W at *
      have hWs:w.heap.size<W.heap.size:=(Array.getElem?_eq_some_iff.1 hW0).1
      have r0:(W).cell? ⟨w.heap.size,0,none⟩=some (.slice none 0 0):=(Qa (i:=0) ((id) hW0)).trans (by simp)
      have r1:(W).cell? ⟨w.heap.size,1,none⟩=some (.slice none 0 0):=(Qa (i:=1) ((id) hW0)).trans (by simp)
      have r2:(W).cell? ⟨w.heap.size,2,none⟩=some (.slice none 0 0):=(Qa (i:=2) ((id) hW0)).trans (by simp)
      have r3:(W).cell? ⟨w.heap.size,3,none⟩=some (.slice none 0 0):=(Qa (i:=3) ((id) hW0)).trans (by simp)
      have hBX:Below w.heap.size w (W):=(id) hBW
      refine bodyPost_ret (v:=.tuple #[.agg #[.slice none 0 0,.slice none 0 0,.slice none 0 0,.slice none 0 0],.bool false]) (by simp[results,Tryz.results133,go_sem,r0,r1,r2,r3]) rfl ⟨fun _=>.slice none 0 0,by rw[HF.out],fun i _=>by rw[HF.out];exact⟨none,0,rfl,Nat.le_refl _,by simp,fun h=>absurd rfl h⟩,hBX⟩
     ·have HN:Hid ((List.range (k+1)).all (fun (dc:Nat)=>runsR none (partL c dc))=true):=by
       unfold Hid;rw[List.range_succ,List.all_append,hrel.out];simp[hq]
      have HQ:=hid hq
      clear hq
      go_wp2_with (go_at_call 168;refine (Q6 (partL c k) (vs k) wr HSL.out).mono ?_;rw[HQ.out];rintro e w1 ⟨rfl,hb1⟩)
      go_roundw
      case rel=>exact⟨k+1,by omega,by go_num,HN.out,hbi.trans (hb1.mono hsi)⟩
      case measure=>simp[intOf];omega
    ·obtain rfl:k=4:=by omega
     have HT:Hid (Qm c=true):=by unfold Hid Qm;rw[HD.out,hrel.out];rfl
     have HR2:=hid (HR.out.grow hbi)
     have hz:=hid ((hbi.block w.heap.size (by omega)).trans HG.out)
     have hBz:=hb.trans (hbi.mono hsz)
     have hsz6:w.heap.size<wr.heap.size:=by omega
     have hsz7:w.heap.size+1<wr.heap.size:=by omega
     clear c0 c1 c2 c3
     have z0:=Qb (i:=0) hz.out
     have z1:=Qb (i:=1) hz.out
     have z2:=Qb (i:=2) hz.out
     have z3:=Qb (i:=3) hz.out
     have c0:wr.cell? ⟨w.heap.size,0,none⟩=some (.slice none 0 0):=Qa (i:=0) hz.out
     have c1:wr.cell? ⟨w.heap.size,1,none⟩=some (.slice none 0 0):=Qa (i:=1) hz.out
     have c2:wr.cell? ⟨w.heap.size,2,none⟩=some (.slice none 0 0):=Qa (i:=2) hz.out
     have c3:wr.cell? ⟨w.heap.size,3,none⟩=some (.slice none 0 0):=Qa (i:=3) hz.out
     have d0:wr.cell? ⟨w.heap.size+1,0,none⟩=some (vs 0):=HR2.out.at (by omega)
     have d1:wr.cell? ⟨w.heap.size+1,1,none⟩=some (vs 1):=HR2.out.at (by omega)
     have d2:wr.cell? ⟨w.heap.size+1,2,none⟩=some (vs 2):=HR2.out.at (by omega)
     have d3:wr.cell? ⟨w.heap.size+1,3,none⟩=some (vs 3):=HR2.out.at (by omega)
     obtain⟨A0,m0,g0⟩:=(HR2.out.own 0 (by omega)).shape
     obtain⟨A1,m1,g1⟩:=(HR2.out.own 1 (by omega)).shape
     obtain⟨A2,m2,g2⟩:=(HR2.out.own 2 (by omega)).shape
     obtain⟨A3,m3,g3⟩:=(HR2.out.own 3 (by omega)).shape
     have G0:=hid g0
     have G1:=hid g1
     have G2:=hid g2
     have G3:=hid g3
     simp only[g0,g1,g2,g3]at d0 d1 d2 d3 ⊢
     clear g0 g1 g2 g3
     go_wp2_with fail
     have hW0:=Qe (i:=3) (Qe (i:=2) (Qe (i:=1) (Qe (i:=0) hz.out (vs 0)) (vs 1)) (vs 2)) (vs 3)
     have hBW:Below w.heap.size w ((((wr.setCell ⟨w.heap.size,0,none⟩ (vs 0)).setCell ⟨w.heap.size,1,none⟩ (vs 1)).setCell ⟨w.heap.size,2,none⟩ (vs 2)).setCell ⟨w.heap.size,3,none⟩ (vs 3)):=(((hBz.setCell (Nat.le_refl _) _).setCell (Nat.le_refl _) _).setCell (Nat.le_refl _) _).setCell (Nat.le_refl _) _
     have hOW:∀ i,i<4->OwnP ((((wr.setCell ⟨w.heap.size,0,none⟩ (vs 0)).setCell ⟨w.heap.size,1,none⟩ (vs 1)).setCell ⟨w.heap.size,2,none⟩ (vs 2)).setCell ⟨w.heap.size,3,none⟩ (vs 3)) (w.heap.size+2) 167 2 RuE (vs i) (partL c i):=fun i hi=>
      ((((HR2.out.own i hi).setOther (a:=⟨w.heap.size,0,none⟩) (by simp) _).setOther (a:=⟨w.heap.size,1,none⟩) (by simp) _).setOther (a:=⟨w.heap.size,2,none⟩) (by simp) _).setOther (a:=⟨w.heap.size,3,none⟩) (by simp) _
     rw[G0.out,G1.out,G2.out,G3.out]at hW0 hBW
     simp only[G0.out,G1.out,G2.out,G3.out]at hOW
     clear c0 c1 c2 c3 z0 z1 z2 z3 d0 d1 d2 d3
     generalize ((((wr.setCell ⟨w.heap.size,0,none⟩ (.slice A0 (partL c ((0:Nat):Int)).length m0)).setCell ⟨w.heap.size,1,none⟩ (.slice A1 (partL c ((1:Nat):Int)).length m1)).setCell ⟨w.heap.size,2,none⟩ (.slice A2 (partL c ((2:Nat):Int)).length m2)).setCell ⟨w.heap.size,3,none⟩ (.slice A3 (partL c ((3:Nat):Int)).length m3))=W at *
     have r0:W.cell? ⟨w.heap.size,0,none⟩=some _:=(Qa (i:=0) hW0).trans rfl
     have r1:W.cell? ⟨w.heap.size,1,none⟩=some _:=(Qa (i:=1) hW0).trans rfl
     have r2:W.cell? ⟨w.heap.size,2,none⟩=some _:=(Qa (i:=2) hW0).trans rfl
     have r3:W.cell? ⟨w.heap.size,3,none⟩=some _:=(Qa (i:=3) hW0).trans rfl
     refine bodyPost_ret (v:=.tuple #[.agg #[vs 0,vs 1,vs 2,vs 3],.bool true]) (by simp[results,Tryz.results133,go_sem,r0,r1,r2,r3,G0.out,G1.out,G2.out,G3.out]) rfl ⟨vs,by rw[HT.out],fun i hi=>by rw[HT.out];exact ((hOW i hi).sla (by have:=Qs c i;unfold Big;simp;omega)).up (fun _ _=>rfl) (fun b hb=>⟨by have:=hb.1;omega,hb.2.1⟩) (fun _ _ _ h=>h),hBW⟩
theorem SlP.oneN {α:Type}{w:World}{o:Obj}{sz n:Nat}{E:α->List Value->Prop}{x:α}{cs:List Value}(hE:E x cs)(hl:cs.length=sz)(e:TypeId)(hn:n=w.heap.size+1) :
  SlP ((w.alloc o).alloc (.cells cs.toArray e)) ((w.alloc o).alloc (.cells cs.toArray e)).heap.size sz E (.slice (some ⟨n,0,none⟩) 1 1) [x]:=
 SlP.oneB hE hl e (hn.trans (World.size_alloc _ _).symm) (by rw[World.size_alloc,World.size_alloc];omega)
def inn (how:Int)(p q:Bool):Bool:=if how=2 then p&&!q else if how=1 then p&&q else p||q
def byOut (out:List (Int×Int))(at' to':Int):List (Int×Int):=
 match out.getLast? with
 |some r=>if r.2=at'-1 then out.set (out.length-1) (r.1,to'-1) else out++[(at',to'-1)]
 |none=>[(at',to'-1)]
def byGo (a b:List (Int×Int))(how:Int)(ps:List Int):Nat->Int×Bool->List (Int×Int)->List (Int×Int)
 |0,_,out=>out
 |n+1,s,out=>if s.2 then byGo a b how ps n (nextL ps s.1) (if inn how (hasL a s.1) (hasL b s.1) then byOut out s.1 (nextL ps s.1).1 else out) else out
def byL (a b:List (Int×Int))(how:Int):List (Int×Int):=byGo a b how (endsL a++endsL b) ((endsL a++endsL b).length+1) (nextL (endsL a++endsL b) 0) []
def cnt (ps:List Int)(x:Int):Nat:=(ps.filter fun y=>decide (x<=y)).length
theorem Z3 (a b:List (Int×Int))(how:Int)(ps:List Int)(n:Nat)(x:Int)(out:List (Int×Int)):byGo a b how ps n (x,false) out=out:=by
 cases n<;>simp[byGo]
theorem ZL:∀ (l:List Int) (above:Int) (s:Int×Bool),(s.2=true->above<s.1)->(l.foldl (nextS above) s=s∨(l.foldl (nextS above) s).1∈l)/\((l.foldl (nextS above) s).2=true->above<(l.foldl (nextS above) s).1)
 |[],_,s,hs=>⟨.inl rfl,hs⟩
 |x :: l,above,s,hs=>by
  simp only[List.foldl_cons]
  by_cases hc:above<x/\(s.2=false∨x<s.1)
  ·have e:nextS above s x=(x,true):=by simp[nextS,hc]
   rw[e]
   obtain⟨h1,h2⟩:=ZL l above (x,true) (fun _=>hc.1)
   refine⟨.inr ?_,h2⟩
   rcases h1 with h1|h1
   ·rw[h1];simp
   ·exact List.mem_cons_of_mem _ h1
  ·have e:nextS above s x=s:=by simp only[nextS,if_neg hc]
   rw[e]
   obtain⟨h1,h2⟩:=ZL l above s hs
   refine⟨?_,h2⟩
   rcases h1 with h1|h1
   ·exact .inl h1
   ·exact .inr (List.mem_cons_of_mem _ h1)
theorem QH {l:List Int}{above:Int}(h:(nextL l above).2=true):(nextL l above).1∈l/\above<(nextL l above).1:=by
 obtain⟨h1,h2⟩:=ZL l above (0,false) (fun h=>by cases h)
 refine⟨?_,h2 h⟩
 rcases h1 with h1|h1
 ·unfold nextL at h;rw[h1]at h;cases h
 ·exact h1
theorem JR {l:List Int}{above lo hi:Int}(hl:∀ x∈l,lo<=x/\x<=hi)(h0:lo<=0)(h1:0<=hi):lo<=(nextL l above).1/\(nextL l above).1<=hi:=by
 obtain⟨h2,_⟩:=ZL l above (0,false) (fun h=>by cases h)
 rcases h2 with h2|h2
 ·unfold nextL;rw[h2];exact⟨h0,h1⟩
 ·exact hl _ h2
theorem JU {l:List Int}{x y:Int}(hx:x∈l)(h:x<y):cnt l y<cnt l x:=by
 unfold cnt
 induction l with
 |nil=>cases hx
 |cons z l ih=>
  have hle:(l.filter fun u=>decide (y<=u)).length<=(l.filter fun u=>decide (x<=u)).length:=by
   clear ih hx
   induction l with
   |nil=>simp
   |cons u l ih=>
    simp only[List.filter_cons]
    by_cases h1:y<=u
    ·have:x<=u:=by omega
     simp[h1,this];exact ih
    ·by_cases h2:x<=u
     ·simp[h1,h2];omega
     ·simp[h1,h2];exact ih
  simp only[List.filter_cons]
  rcases List.mem_cons.1 hx with rfl|hx
  ·have:¬y<=x:=by omega
   simp[this];omega
  ·have:=ih hx
   by_cases h1:y<=z
   ·have:x<=z:=by omega
    simp[h1,this];omega
   ·by_cases h2:x<=z
    ·simp[h1,h2];omega
    ·simp[h1,h2];omega
theorem K8 {l:List Int}{x:Int}(hx:x∈l):0<cnt l x:=by
 unfold cnt;exact List.length_pos_of_mem (List.mem_filter.2 ⟨hx,by simp⟩)
theorem JV (l:List Int)(x:Int):cnt l x<=l.length:=List.length_filter_le _ _
theorem JW {l:List (Int×Int)}(h:QL l):∀ x∈endsL l,0<=x/\x<=1099511627778:=fun x hx=>by
 unfold endsL at hx
 obtain⟨r,hr,hx⟩:=List.mem_flatMap.1 hx
 have:=h r hr
 simp at hx
 omega
theorem ZM (l:List (Int×Int)):(endsL l).length=2*l.length:=by
 unfold endsL;rw[List.length_flatMap];simp[List.map_const'];omega
theorem K9 (a b:List (Int×Int))(how:Int)(va vb:Value)(w:World)(ha:SlP w w.heap.size 2 RuE va a)(hb:SlP w w.heap.size 2 RuE vb b)(hN:a.length<=100000)(hN':b.length<=100000)(hR:QL a)(hR':QL b)(hh:how=0∨how=1∨how=2) :
  Calls Tryz.prog 163 #[va,vb,.int .i64 how] w (RetO w 166 2 (fun _=>RuE) (byL a b how)):=by
 have hps:∀ x∈endsL a++endsL b,0<=x/\x<=1099511627778:=fun x hx=>by
  rcases List.mem_append.1 hx with h|h
  ·exact JW hR x h
  ·exact JW hR' x h
 have hla:=ZM a
 have hlb:=ZM b
 have HLE:Hid ((endsL a).length+(endsL b).length<=Few):=by unfold Hid Few;omega
 have hpl:Hid ((endsL a++endsL b).length<=400000):=by unfold Hid;simp;omega
 clear hla hlb
 go_enter Tryz.func163,Tryz.ntmps163
 go_wp2_with fail
 refine (Yv a va _ ha (by omega) hR).mono ?_
 rintro e w1 ⟨v1,rfl,ho1,hb1⟩
 have hs1:=hb1.size
 go_wp2_with fail
 refine (Yv b vb _ (hb.imp hb1 hs1 fun _ _ _ h=>h) (by omega) hR').mono ?_
 rintro e w2 ⟨v2,rfl,ho2,hb2⟩
 have hs2:=hb2.size
 go_wp2_with (at_builtin;refine Qj rfl (.tmp 17) (.tmp 19) _ rfl Xk (by decide) (by decide) (fun _ _ h=>h.one) rfl (ho1.grow hb2) rfl (ho2.sl (by have:=HLE.out;unfold Few at this;unfold Big;omega)) HLE.out (by omega) ?_;intro vp w3 ho3 hb3 _)
 have hB3:Below w.heap.size w w3:=(hb1.trans (hb2.mono hs1)).trans hb3
 have hs3:=hb3.size
 have hby:byL a b how=byGo a b how (endsL a++endsL b) ((endsL a++endsL b).length+1) (nextL (endsL a++endsL b) 0) []:=rfl
 generalize hpsd:endsL a++endsL b=ps at *
 have hsp:=ho3.sl (by have:=hpl.out;unfold Big;omega)
 have HY:=hid hby
 have ha3:=ha.imp hB3 (by omega:w.heap.size<=w3.heap.size) fun _ _ _ h=>h
 have hb3':=hb.imp hB3 (by omega:w.heap.size<=w3.heap.size) fun _ _ _ h=>h
 have hbd:∀ x,0<=(nextL ps x).1/\(nextL ps x).1<=1099511627778:=fun x=>JR hps (by omega) (by omega)
 have HM:∀ x,x∈ps->∀ n,(cnt ps x<=n+1)->(nextL ps x).2=true->(nextL ps x).1∈ps/\cnt ps (nextL ps x).1<=n:=fun x hx n hc h=>⟨(QH h).1,by have:=JU hx (QH h).2;omega⟩
 have HM0:(nextL ps 0).2=true->(nextL ps 0).1∈ps/\cnt ps (nextL ps 0).1<=ps.length+1:=fun h=>⟨(QH h).1,by have:=JV ps (nextL ps 0).1;omega⟩
 clear hby hps ho1 ho2 hpsd HLE ho3
 have HBD:=hid hbd
 have HMH:=hid HM
 have HM0H:=hid HM0
 clear hbd HM HM0
 refine (QM ps 0 vp w3 _ hsp).mono ?_
 rintro e wx ⟨rfl,rfl⟩
 go_wp2_with fail
 go_loopg [8,9,10] (ps.length+1) (fun n vo vx vk wr=>∃ (outL:List (Int×Int)) (x:Int) (k:Bool),OwnP wr w3.heap.size 166 2 RuE vo outL/\vx=.int .i64 x/\vk=.bool k/\0<=x/\x<=1099511627778/\Below w3.heap.size w3 wr /\
  Hid (byGo a b how ps n (x,k) outL=byL a b how)/\Hid (k=true->x∈ps/\cnt ps x<=n)/\Hid (outL.length+n<=ps.length+1))
 case atStart=>exact⟨[],_,_,OwnP.nil,rfl,rfl,(HBD.out 0).1,(HBD.out 0).2,Below.refl _ _,HY.out.symm,HM0H.out,by unfold Hid;simp⟩
 case round=>
  obtain⟨outL,x,k,hown,rfl,rfl,hx0,hx1,hbr,hrel,hmem,hlen⟩:=hrel
  have hsz:=hbr.size
  cases k
  ·have hr:=hrel.out
   rw[Z3]at hr
   have HR:=hid hr
   clear hr
   go_wp2_with fail
   go_ret
   exact⟨_,rfl,by rw[←HR.out];exact hown.mono (by omega),hB3.trans (hbr.mono (by omega))⟩
  ·obtain⟨n,rfl⟩:∃ n,gk=n+1:=⟨gk-1,by have:=hmem.out rfl;have:=K8 this.1;omega⟩
   have HMM:=hid (hmem.out rfl)
   have HI:Hid (byGo a b how ps n (nextL ps x) (if inn how (hasL a x) (hasL b x) then byOut outL x (nextL ps x).1 else outL)=byL a b how):=hrel.out
   have har:=ha3.imp hbr (Nat.le_refl _) fun _ _ _ h=>h
   have hbr':=hb3'.imp hbr (Nat.le_refl _) fun _ _ _ h=>h
   have hpr:=hsp.imp hbr (Nat.le_refl _) fun _ _ _ h=>h
   have hn0:=(HBD.out x).1
   have hn1:=(HBD.out x).2
   go_wp2_with fail
   refine (QM ps x vp _ _ hpr).mono ?_
   rintro e wx ⟨rfl,rfl⟩
   go_wp2_with fail
   refine (YY a x va _ _ har).mono ?_
   rintro e wx ⟨rfl,rfl⟩
   go_wp2_with fail
   refine (YY b x vb _ _ hbr').mono ?_
   rintro e wx ⟨rfl,rfl⟩
   go_upto_region 7 with (fail)
   have JN:Hid (RuE (x,(nextL ps x).1-1) [.int .i64 x,.int .i64 ((nextL ps x).1-1)]):=⟨rfl,⟨by omega,by omega⟩,⟨by show _<=(nextL ps x).1-1;omega,by show (nextL ps x).1-1<=_;omega⟩⟩
   have HNX:Hid ((nextL ps x).2=true->(nextL ps x).1∈ps/\cnt ps (nextL ps x).1<=n):=fun h=>HMH.out x HMM.out.1 n HMM.out.2 h
   have HL:Hid (outL.length + [(x,(nextL ps x).1-1)].length<=Few):=by have:=hlen.out;have:=hpl.out;unfold Hid Few;simp;omega
   have hob:outL.length<=400001:=by have:=hlen.out;have:=hpl.out;omega
   generalize hasL a x=p at *
   generalize hasL b x=q at *
   cases p<;>cases q<;>rcases hh with rfl|rfl|rfl
   ·go_wp2_with fail
    go_roundg n
    case measure=>omega
    case rel=>exact⟨outL,_,_,hown,rfl,rfl,HBD.out x |>.1,HBD.out x |>.2,hbr,by have:=HI.out;rw[if_neg (by decide)]at this;exact this,HNX.out,by have:=hlen.out;unfold Hid;omega⟩
   ·go_wp2_with fail
    go_roundg n
    case measure=>omega
    case rel=>exact⟨outL,_,_,hown,rfl,rfl,HBD.out x |>.1,HBD.out x |>.2,hbr,by have:=HI.out;rw[if_neg (by decide)]at this;exact this,HNX.out,by have:=hlen.out;unfold Hid;omega⟩
   ·go_wp2_with fail
    go_roundg n
    case measure=>omega
    case rel=>exact⟨outL,_,_,hown,rfl,rfl,HBD.out x |>.1,HBD.out x |>.2,hbr,by have:=HI.out;rw[if_neg (by decide)]at this;exact this,HNX.out,by have:=hlen.out;unfold Hid;omega⟩
   ·rcases Nat.eq_zero_or_pos outL.length with hz|hz
    ·obtain rfl:outL=[]:=List.eq_nil_of_length_eq_zero hz
     have HO:Hid (byOut [] x (nextL ps x).1=[]++[(x,(nextL ps x).1-1)]):=rfl
     obtain⟨A8,c8,rfl⟩:=hown.shape
     clear hz
     simp only[List.length_nil]at hown HL ⊢
     go_wp2_with (at_builtin;with_reducible refine Qj rfl (.tmp 83) (.tmp 88) _ rfl Q4 (by decide) (by decide) (fun _ _ h=>h.one) rfl (hown.alloc _) rfl (SlP.one (x:=(x,(nextL ps x).1-1)) JN.out rfl _ rfl) HL.out (by rw[World.size_alloc];omega) ?_;intro v1 w1 hown1 hb1 _)
     go_roundg n
     case measure=>omega
     case rel=>exact⟨[]++[(x,(nextL ps x).1-1)],_,_,hown1,rfl,rfl,HBD.out x |>.1,HBD.out x |>.2,(hbr.alloc hsz _).trans hb1,by have:=HI.out;rw[if_pos (by decide),HO.out]at this;exact this,HNX.out,by have:=hlen.out;unfold Hid;simp at this ⊢;omega⟩
    obtain⟨r,hr⟩:∃ r,outL[outL.length-1]?=some r:=⟨_,List.getElem?_eq_getElem (by omega)⟩
    obtain⟨g,cap,rfl,hg1,hg2,c0,c1,hfz,hset⟩:=hown.setRun hr (z:=(nextL ps x).1-1) ⟨by omega,by omega⟩
    have hfz1:=hfz ((outL.length-1)*2+1)
    have HBO:Hid (byOut outL x (nextL ps x).1=if r.2=x-1 then outL.set (outL.length-1) (r.1,(nextL ps x).1-1) else outL++[(x,(nextL ps x).1-1)]):=by
     unfold Hid byOut;rw[List.getLast?_eq_getElem?,hr]
    clear hr hfz
    by_cases hq:r.2=x-1
    ·have HO:Hid (byOut outL x (nextL ps x).1=outL.set (outL.length-1) (r.1,(nextL ps x).1-1)):=by unfold Hid;rw[HBO.out,if_pos hq]
     have hq':(r.2==x-1)=true:=by simpa using hq
     have HQ:=hid hq
     have HS:=hid hset
     clear hq hset
     go_wp2_with fail
     go_roundg n
     case measure=>omega
     case rel=>exact⟨outL.set (outL.length-1) (r.1,(nextL ps x).1-1),_,_,HS.out,rfl,rfl,HBD.out x |>.1,HBD.out x |>.2,hbr.setCell (by exact hg1) _,by have:=HI.out;rw[if_pos (by decide),HO.out]at this;exact this,HNX.out,by have:=hlen.out;unfold Hid;rw[List.length_set];omega⟩
    ·have HO:Hid (byOut outL x (nextL ps x).1=outL++[(x,(nextL ps x).1-1)]):=by unfold Hid;rw[HBO.out,if_neg hq]
     have hq':(r.2==x-1)=false:=by simpa using hq
     have HQ:=hid hq
     clear hq hset
     go_wp2_with (at_builtin;with_reducible refine Qj rfl (.tmp 83) (.tmp 88) _ rfl Q4 (by decide) (by decide) (fun _ _ h=>h.one) rfl (hown.alloc _) rfl (SlP.one (x:=(x,(nextL ps x).1-1)) JN.out rfl _ rfl) HL.out (by rw[World.size_alloc];omega) ?_;intro v1 w1 hown1 hb1 _)
     go_roundg n
     case measure=>omega
     case rel=>exact⟨outL++[(x,(nextL ps x).1-1)],_,_,hown1,rfl,rfl,HBD.out x |>.1,HBD.out x |>.2,(hbr.alloc hsz _).trans hb1,by have:=HI.out;rw[if_pos (by decide),HO.out]at this;exact this,HNX.out,by have:=hlen.out;unfold Hid;simp;omega⟩
   ·go_wp2_with fail
    go_roundg n
    case measure=>omega
    case rel=>exact⟨outL,_,_,hown,rfl,rfl,HBD.out x |>.1,HBD.out x |>.2,hbr,by have:=HI.out;rw[if_neg (by decide)]at this;exact this,HNX.out,by have:=hlen.out;unfold Hid;omega⟩
   ·go_wp2_with fail
    go_roundg n
    case measure=>omega
    case rel=>exact⟨outL,_,_,hown,rfl,rfl,HBD.out x |>.1,HBD.out x |>.2,hbr,by have:=HI.out;rw[if_neg (by decide)]at this;exact this,HNX.out,by have:=hlen.out;unfold Hid;omega⟩
   ·rcases Nat.eq_zero_or_pos outL.length with hz|hz
    ·obtain rfl:outL=[]:=List.eq_nil_of_length_eq_zero hz
     have HO:Hid (byOut [] x (nextL ps x).1=[]++[(x,(nextL ps x).1-1)]):=rfl
     obtain⟨A8,c8,rfl⟩:=hown.shape
     clear hz
     simp only[List.length_nil]at hown HL ⊢
     go_wp2_with (at_builtin;with_reducible refine Qj rfl (.tmp 83) (.tmp 88) _ rfl Q4 (by decide) (by decide) (fun _ _ h=>h.one) rfl (hown.alloc _) rfl (SlP.one (x:=(x,(nextL ps x).1-1)) JN.out rfl _ rfl) HL.out (by rw[World.size_alloc];omega) ?_;intro v1 w1 hown1 hb1 _)
     go_roundg n
     case measure=>omega
     case rel=>exact⟨[]++[(x,(nextL ps x).1-1)],_,_,hown1,rfl,rfl,HBD.out x |>.1,HBD.out x |>.2,(hbr.alloc hsz _).trans hb1,by have:=HI.out;rw[if_pos (by decide),HO.out]at this;exact this,HNX.out,by have:=hlen.out;unfold Hid;simp at this ⊢;omega⟩
    obtain⟨r,hr⟩:∃ r,outL[outL.length-1]?=some r:=⟨_,List.getElem?_eq_getElem (by omega)⟩
    obtain⟨g,cap,rfl,hg1,hg2,c0,c1,hfz,hset⟩:=hown.setRun hr (z:=(nextL ps x).1-1) ⟨by omega,by omega⟩
    have hfz1:=hfz ((outL.length-1)*2+1)
    have HBO:Hid (byOut outL x (nextL ps x).1=if r.2=x-1 then outL.set (outL.length-1) (r.1,(nextL ps x).1-1) else outL++[(x,(nextL ps x).1-1)]):=by
     unfold Hid byOut;rw[List.getLast?_eq_getElem?,hr]
    clear hr hfz
    by_cases hq:r.2=x-1
    ·have HO:Hid (byOut outL x (nextL ps x).1=outL.set (outL.length-1) (r.1,(nextL ps x).1-1)):=by unfold Hid;rw[HBO.out,if_pos hq]
     have hq':(r.2==x-1)=true:=by simpa using hq
     have HQ:=hid hq
     have HS:=hid hset
     clear hq hset
     go_wp2_with fail
     go_roundg n
     case measure=>omega
     case rel=>exact⟨outL.set (outL.length-1) (r.1,(nextL ps x).1-1),_,_,HS.out,rfl,rfl,HBD.out x |>.1,HBD.out x |>.2,hbr.setCell (by exact hg1) _,by have:=HI.out;rw[if_pos (by decide),HO.out]at this;exact this,HNX.out,by have:=hlen.out;unfold Hid;rw[List.length_set];omega⟩
    ·have HO:Hid (byOut outL x (nextL ps x).1=outL++[(x,(nextL ps x).1-1)]):=by unfold Hid;rw[HBO.out,if_neg hq]
     have hq':(r.2==x-1)=false:=by simpa using hq
     have HQ:=hid hq
     clear hq hset
     go_wp2_with (at_builtin;with_reducible refine Qj rfl (.tmp 83) (.tmp 88) _ rfl Q4 (by decide) (by decide) (fun _ _ h=>h.one) rfl (hown.alloc _) rfl (SlP.one (x:=(x,(nextL ps x).1-1)) JN.out rfl _ rfl) HL.out (by rw[World.size_alloc];omega) ?_;intro v1 w1 hown1 hb1 _)
     go_roundg n
     case measure=>omega
     case rel=>exact⟨outL++[(x,(nextL ps x).1-1)],_,_,hown1,rfl,rfl,HBD.out x |>.1,HBD.out x |>.2,(hbr.alloc hsz _).trans hb1,by have:=HI.out;rw[if_pos (by decide),HO.out]at this;exact this,HNX.out,by have:=hlen.out;unfold Hid;simp;omega⟩
   ·go_wp2_with fail
    go_roundg n
    case measure=>omega
    case rel=>exact⟨outL,_,_,hown,rfl,rfl,HBD.out x |>.1,HBD.out x |>.2,hbr,by have:=HI.out;rw[if_neg (by decide)]at this;exact this,HNX.out,by have:=hlen.out;unfold Hid;omega⟩
   ·rcases Nat.eq_zero_or_pos outL.length with hz|hz
    ·obtain rfl:outL=[]:=List.eq_nil_of_length_eq_zero hz
     have HO:Hid (byOut [] x (nextL ps x).1=[]++[(x,(nextL ps x).1-1)]):=rfl
     obtain⟨A8,c8,rfl⟩:=hown.shape
     clear hz
     simp only[List.length_nil]at hown HL ⊢
     go_wp2_with (at_builtin;with_reducible refine Qj rfl (.tmp 83) (.tmp 88) _ rfl Q4 (by decide) (by decide) (fun _ _ h=>h.one) rfl (hown.alloc _) rfl (SlP.one (x:=(x,(nextL ps x).1-1)) JN.out rfl _ rfl) HL.out (by rw[World.size_alloc];omega) ?_;intro v1 w1 hown1 hb1 _)
     go_roundg n
     case measure=>omega
     case rel=>exact⟨[]++[(x,(nextL ps x).1-1)],_,_,hown1,rfl,rfl,HBD.out x |>.1,HBD.out x |>.2,(hbr.alloc hsz _).trans hb1,by have:=HI.out;rw[if_pos (by decide),HO.out]at this;exact this,HNX.out,by have:=hlen.out;unfold Hid;simp at this ⊢;omega⟩
    obtain⟨r,hr⟩:∃ r,outL[outL.length-1]?=some r:=⟨_,List.getElem?_eq_getElem (by omega)⟩
    obtain⟨g,cap,rfl,hg1,hg2,c0,c1,hfz,hset⟩:=hown.setRun hr (z:=(nextL ps x).1-1) ⟨by omega,by omega⟩
    have hfz1:=hfz ((outL.length-1)*2+1)
    have HBO:Hid (byOut outL x (nextL ps x).1=if r.2=x-1 then outL.set (outL.length-1) (r.1,(nextL ps x).1-1) else outL++[(x,(nextL ps x).1-1)]):=by
     unfold Hid byOut;rw[List.getLast?_eq_getElem?,hr]
    clear hr hfz
    by_cases hq:r.2=x-1
    ·have HO:Hid (byOut outL x (nextL ps x).1=outL.set (outL.length-1) (r.1,(nextL ps x).1-1)):=by unfold Hid;rw[HBO.out,if_pos hq]
     have hq':(r.2==x-1)=true:=by simpa using hq
     have HQ:=hid hq
     have HS:=hid hset
     clear hq hset
     go_wp2_with fail
     go_roundg n
     case measure=>omega
     case rel=>exact⟨outL.set (outL.length-1) (r.1,(nextL ps x).1-1),_,_,HS.out,rfl,rfl,HBD.out x |>.1,HBD.out x |>.2,hbr.setCell (by exact hg1) _,by have:=HI.out;rw[if_pos (by decide),HO.out]at this;exact this,HNX.out,by have:=hlen.out;unfold Hid;rw[List.length_set];omega⟩
    ·have HO:Hid (byOut outL x (nextL ps x).1=outL++[(x,(nextL ps x).1-1)]):=by unfold Hid;rw[HBO.out,if_neg hq]
     have hq':(r.2==x-1)=false:=by simpa using hq
     have HQ:=hid hq
     clear hq hset
     go_wp2_with (at_builtin;with_reducible refine Qj rfl (.tmp 83) (.tmp 88) _ rfl Q4 (by decide) (by decide) (fun _ _ h=>h.one) rfl (hown.alloc _) rfl (SlP.one (x:=(x,(nextL ps x).1-1)) JN.out rfl _ rfl) HL.out (by rw[World.size_alloc];omega) ?_;intro v1 w1 hown1 hb1 _)
     go_roundg n
     case measure=>omega
     case rel=>exact⟨outL++[(x,(nextL ps x).1-1)],_,_,hown1,rfl,rfl,HBD.out x |>.1,HBD.out x |>.2,(hbr.alloc hsz _).trans hb1,by have:=HI.out;rw[if_pos (by decide),HO.out]at this;exact this,HNX.out,by have:=hlen.out;unfold Hid;simp;omega⟩
   ·rcases Nat.eq_zero_or_pos outL.length with hz|hz
    ·obtain rfl:outL=[]:=List.eq_nil_of_length_eq_zero hz
     have HO:Hid (byOut [] x (nextL ps x).1=[]++[(x,(nextL ps x).1-1)]):=rfl
     obtain⟨A8,c8,rfl⟩:=hown.shape
     clear hz
     simp only[List.length_nil]at hown HL ⊢
     go_wp2_with (at_builtin;with_reducible refine Qj rfl (.tmp 83) (.tmp 88) _ rfl Q4 (by decide) (by decide) (fun _ _ h=>h.one) rfl (hown.alloc _) rfl (SlP.one (x:=(x,(nextL ps x).1-1)) JN.out rfl _ rfl) HL.out (by rw[World.size_alloc];omega) ?_;intro v1 w1 hown1 hb1 _)
     go_roundg n
     case measure=>omega
     case rel=>exact⟨[]++[(x,(nextL ps x).1-1)],_,_,hown1,rfl,rfl,HBD.out x |>.1,HBD.out x |>.2,(hbr.alloc hsz _).trans hb1,by have:=HI.out;rw[if_pos (by decide),HO.out]at this;exact this,HNX.out,by have:=hlen.out;unfold Hid;simp at this ⊢;omega⟩
    obtain⟨r,hr⟩:∃ r,outL[outL.length-1]?=some r:=⟨_,List.getElem?_eq_getElem (by omega)⟩
    obtain⟨g,cap,rfl,hg1,hg2,c0,c1,hfz,hset⟩:=hown.setRun hr (z:=(nextL ps x).1-1) ⟨by omega,by omega⟩
    have hfz1:=hfz ((outL.length-1)*2+1)
    have HBO:Hid (byOut outL x (nextL ps x).1=if r.2=x-1 then outL.set (outL.length-1) (r.1,(nextL ps x).1-1) else outL++[(x,(nextL ps x).1-1)]):=by
     unfold Hid byOut;rw[List.getLast?_eq_getElem?,hr]
    clear hr hfz
    by_cases hq:r.2=x-1
    ·have HO:Hid (byOut outL x (nextL ps x).1=outL.set (outL.length-1) (r.1,(nextL ps x).1-1)):=by unfold Hid;rw[HBO.out,if_pos hq]
     have hq':(r.2==x-1)=true:=by simpa using hq
     have HQ:=hid hq
     have HS:=hid hset
     clear hq hset
     go_wp2_with fail
     go_roundg n
     case measure=>omega
     case rel=>exact⟨outL.set (outL.length-1) (r.1,(nextL ps x).1-1),_,_,HS.out,rfl,rfl,HBD.out x |>.1,HBD.out x |>.2,hbr.setCell (by exact hg1) _,by have:=HI.out;rw[if_pos (by decide),HO.out]at this;exact this,HNX.out,by have:=hlen.out;unfold Hid;rw[List.length_set];omega⟩
    ·have HO:Hid (byOut outL x (nextL ps x).1=outL++[(x,(nextL ps x).1-1)]):=by unfold Hid;rw[HBO.out,if_neg hq]
     have hq':(r.2==x-1)=false:=by simpa using hq
     have HQ:=hid hq
     clear hq hset
     go_wp2_with (at_builtin;with_reducible refine Qj rfl (.tmp 83) (.tmp 88) _ rfl Q4 (by decide) (by decide) (fun _ _ h=>h.one) rfl (hown.alloc _) rfl (SlP.one (x:=(x,(nextL ps x).1-1)) JN.out rfl _ rfl) HL.out (by rw[World.size_alloc];omega) ?_;intro v1 w1 hown1 hb1 _)
     go_roundg n
     case measure=>omega
     case rel=>exact⟨outL++[(x,(nextL ps x).1-1)],_,_,hown1,rfl,rfl,HBD.out x |>.1,HBD.out x |>.2,(hbr.alloc hsz _).trans hb1,by have:=HI.out;rw[if_pos (by decide),HO.out]at this;exact this,HNX.out,by have:=hlen.out;unfold Hid;simp;omega⟩
   ·rcases Nat.eq_zero_or_pos outL.length with hz|hz
    ·obtain rfl:outL=[]:=List.eq_nil_of_length_eq_zero hz
     have HO:Hid (byOut [] x (nextL ps x).1=[]++[(x,(nextL ps x).1-1)]):=rfl
     obtain⟨A8,c8,rfl⟩:=hown.shape
     clear hz
     simp only[List.length_nil]at hown HL ⊢
     go_wp2_with (at_builtin;with_reducible refine Qj rfl (.tmp 83) (.tmp 88) _ rfl Q4 (by decide) (by decide) (fun _ _ h=>h.one) rfl (hown.alloc _) rfl (SlP.one (x:=(x,(nextL ps x).1-1)) JN.out rfl _ rfl) HL.out (by rw[World.size_alloc];omega) ?_;intro v1 w1 hown1 hb1 _)
     go_roundg n
     case measure=>omega
     case rel=>exact⟨[]++[(x,(nextL ps x).1-1)],_,_,hown1,rfl,rfl,HBD.out x |>.1,HBD.out x |>.2,(hbr.alloc hsz _).trans hb1,by have:=HI.out;rw[if_pos (by decide),HO.out]at this;exact this,HNX.out,by have:=hlen.out;unfold Hid;simp at this ⊢;omega⟩
    obtain⟨r,hr⟩:∃ r,outL[outL.length-1]?=some r:=⟨_,List.getElem?_eq_getElem (by omega)⟩
    obtain⟨g,cap,rfl,hg1,hg2,c0,c1,hfz,hset⟩:=hown.setRun hr (z:=(nextL ps x).1-1) ⟨by omega,by omega⟩
    have hfz1:=hfz ((outL.length-1)*2+1)
    have HBO:Hid (byOut outL x (nextL ps x).1=if r.2=x-1 then outL.set (outL.length-1) (r.1,(nextL ps x).1-1) else outL++[(x,(nextL ps x).1-1)]):=by
     unfold Hid byOut;rw[List.getLast?_eq_getElem?,hr]
    clear hr hfz
    by_cases hq:r.2=x-1
    ·have HO:Hid (byOut outL x (nextL ps x).1=outL.set (outL.length-1) (r.1,(nextL ps x).1-1)):=by unfold Hid;rw[HBO.out,if_pos hq]
     have hq':(r.2==x-1)=true:=by simpa using hq
     have HQ:=hid hq
     have HS:=hid hset
     clear hq hset
     go_wp2_with fail
     go_roundg n
     case measure=>omega
     case rel=>exact⟨outL.set (outL.length-1) (r.1,(nextL ps x).1-1),_,_,HS.out,rfl,rfl,HBD.out x |>.1,HBD.out x |>.2,hbr.setCell (by exact hg1) _,by have:=HI.out;rw[if_pos (by decide),HO.out]at this;exact this,HNX.out,by have:=hlen.out;unfold Hid;rw[List.length_set];omega⟩
    ·have HO:Hid (byOut outL x (nextL ps x).1=outL++[(x,(nextL ps x).1-1)]):=by unfold Hid;rw[HBO.out,if_neg hq]
     have hq':(r.2==x-1)=false:=by simpa using hq
     have HQ:=hid hq
     clear hq hset
     go_wp2_with (at_builtin;with_reducible refine Qj rfl (.tmp 83) (.tmp 88) _ rfl Q4 (by decide) (by decide) (fun _ _ h=>h.one) rfl (hown.alloc _) rfl (SlP.one (x:=(x,(nextL ps x).1-1)) JN.out rfl _ rfl) HL.out (by rw[World.size_alloc];omega) ?_;intro v1 w1 hown1 hb1 _)
     go_roundg n
     case measure=>omega
     case rel=>exact⟨outL++[(x,(nextL ps x).1-1)],_,_,hown1,rfl,rfl,HBD.out x |>.1,HBD.out x |>.2,(hbr.alloc hsz _).trans hb1,by have:=HI.out;rw[if_pos (by decide),HO.out]at this;exact this,HNX.out,by have:=hlen.out;unfold Hid;simp;omega⟩
   ·go_wp2_with fail
    go_roundg n
    case measure=>omega
    case rel=>exact⟨outL,_,_,hown,rfl,rfl,HBD.out x |>.1,HBD.out x |>.2,hbr,by have:=HI.out;rw[if_neg (by decide)]at this;exact this,HNX.out,by have:=hlen.out;unfold Hid;omega⟩
def ofOut (out:List (Int×Int))(x:Int):List (Int×Int):=
 match out.getLast? with
 |some r=>if r.2=x-1 then out.set (out.length-1) (r.1,x) else out++[(x,x)]
 |none=>[(x,x)]
def ofGo (ps:List Int):Nat->Int×Bool->List (Int×Int)->List (Int×Int)
 |0,_,out=>out
 |n+1,s,out=>if s.2 then ofGo ps n (nextL ps s.1) (ofOut out s.1) else out
def ofL (ps:List Int):List (Int×Int):=ofGo ps (ps.length+1) (nextL ps 0) []
theorem Kr (ps:List Int)(n:Nat)(x:Int)(out:List (Int×Int)):ofGo ps n (x,false) out=out:=by
 cases n<;>simp[ofGo]
theorem Va (out:List (Int×Int))(x:Int):(ofOut out x).length<=out.length+1:=by
 unfold ofOut
 cases h:out.getLast? with
 |none=>simp
 |some r=>dsimp only;split<;>simp
theorem JX (ps:List Int):∀ (n:Nat) (s:Int×Bool) (out:List (Int×Int)),(ofGo ps n s out).length<=out.length+n
 |0,s,out=>by simp[ofGo]
 |n+1,s,out=>by
  rw[ofGo]
  split
  ·have:=JX ps n (nextL ps s.1) (ofOut out s.1);have:=Va out s.1;omega
  ·omega
theorem Xr (ps:List Int):(ofL ps).length<=ps.length+1:=by have:=JX ps (ps.length+1) (nextL ps 0) [];simpa[ofL] using this
theorem Vb (ps:List Int)(vp:Value)(w:World)(hsp:SlP w w.heap.size 1 InE vp ps)(hN:ps.length<=400000)(hps:∀ x∈ps,0<=x/\x<=1099511627778) :
  Calls Tryz.prog 164 #[vp] w (RetO w 166 2 (fun _=>RuE) (ofL ps)):=by
 have HY:Hid (ofL ps=ofGo ps (ps.length+1) (nextL ps 0) []):=rfl
 have HBD:Hid (∀ x,0<=(nextL ps x).1/\(nextL ps x).1<=1099511627778):=fun x=>JR hps (by omega) (by omega)
 have HMH:Hid (∀ x,x∈ps->∀ n,(cnt ps x<=n+1)->(nextL ps x).2=true->(nextL ps x).1∈ps/\cnt ps (nextL ps x).1<=n):=fun x hx n hc h=>⟨(QH h).1,by have:=JU hx (QH h).2;omega⟩
 have HM0H:Hid ((nextL ps 0).2=true->(nextL ps 0).1∈ps/\cnt ps (nextL ps 0).1<=ps.length+1):=fun h=>⟨(QH h).1,by have:=JV ps (nextL ps 0).1;omega⟩
 clear hps
 go_enter Tryz.func164,Tryz.ntmps164
 go_wp2_with (go_at_call 190;with_reducible refine (QM ps 0 vp w _ hsp).mono ?_;rintro e wx ⟨rfl,rfl⟩)
 go_loopg [3,4,5] (ps.length+1) (fun n vo vx vk wr=>∃ (outL:List (Int×Int)) (x:Int) (k:Bool),OwnP wr w.heap.size 166 2 RuE vo outL/\vx=.int .i64 x/\vk=.bool k/\0<=x/\x<=1099511627778/\Below w.heap.size w wr /\
  Hid (ofGo ps n (x,k) outL=ofL ps)/\Hid (k=true->x∈ps/\cnt ps x<=n)/\Hid (outL.length+n<=ps.length+1))
 case atStart=>exact⟨[],_,_,OwnP.nil,rfl,rfl,(HBD.out 0).1,(HBD.out 0).2,Below.refl _ _,HY.out.symm,HM0H.out,by unfold Hid;simp⟩
 case round=>
  obtain⟨outL,x,k,hown,rfl,rfl,hx0,hx1,hbr,hrel,hmem,hlen⟩:=hrel
  have hsz:=hbr.size
  cases k
  ·have hr:=hrel.out
   rw[Kr]at hr
   have HR:=hid hr
   clear hr
   go_wp2_with fail
   go_ret
   exact⟨_,rfl,by rw[←HR.out];exact hown,hbr⟩
  ·obtain⟨n,rfl⟩:∃ n,gk=n+1:=⟨gk-1,by have:=hmem.out rfl;have:=K8 this.1;omega⟩
   have HMM:=hid (hmem.out rfl)
   have HI:Hid (ofGo ps n (nextL ps x) (ofOut outL x)=ofL ps):=hrel.out
   have HPR:Hid (∀ w',Below w.heap.size w w'->SlP w' w.heap.size 1 InE vp ps):=fun w' hb'=>hsp.imp hb' (Nat.le_refl _) fun _ _ _ h=>h
   have JN:Hid (RuE (x,x) [.int .i64 x,.int .i64 x]):=⟨rfl,⟨by omega,by omega⟩,⟨by show _<=x;omega,by show x<=_;omega⟩⟩
   have HNX:Hid ((nextL ps x).2=true->(nextL ps x).1∈ps/\cnt ps (nextL ps x).1<=n):=fun h=>HMH.out x HMM.out.1 n HMM.out.2 h
   have HL:Hid (outL.length + [(x,x)].length<=Few):=by have:=hlen.out;unfold Hid Few;simp;omega
   have hob:outL.length<=400001:=by have:=hlen.out;omega
   rcases Nat.eq_zero_or_pos outL.length with hz|hz
   ·obtain rfl:outL=[]:=List.eq_nil_of_length_eq_zero hz
    have HO:Hid (ofOut [] x=[]++[(x,x)]):=rfl
    obtain⟨A8,c8,rfl⟩:=hown.shape
    clear hz
    simp only[List.length_nil]at hown ⊢
    have HL:Hid (([]:List (Int×Int)).length + [(x,x)].length<=Few):=by unfold Hid Few;simp
    go_wp2_with (first|(at_builtin;with_reducible refine Qj rfl (.tmp 34) (.tmp 38) _ rfl Q4 (by decide) (by decide) (fun _ _ h=>h.one) rfl (hown.alloc _) rfl (SlP.one (x:=(x,x)) JN.out rfl _ rfl) HL.out (by rw[World.size_alloc];omega) ?_;intro v1 w1 hown1 hb1 _)|(go_at_call 190;with_reducible refine (QM ps x vp _ _ (HPR.out _ ((hbr.alloc hsz _).trans hb1))).mono ?_;rintro e wx ⟨rfl,rfl⟩))
    go_roundg n
    case measure=>omega
    case rel=>exact⟨[]++[(x,x)],_,_,hown1,rfl,rfl,HBD.out x |>.1,HBD.out x |>.2,(hbr.alloc hsz _).trans hb1,by have:=HI.out;rw[HO.out]at this;exact this,HNX.out,by have:=hlen.out;unfold Hid;simp at this ⊢;omega⟩
   obtain⟨r,hr⟩:∃ r,outL[outL.length-1]?=some r:=⟨_,List.getElem?_eq_getElem (by omega)⟩
   obtain⟨g,cap,rfl,hg1,hg2,c0,c1,hfz,hset⟩:=hown.setRun hr (z:=x) ⟨by omega,by omega⟩
   have hfz1:=hfz ((outL.length-1)*2+1)
   have HBO:Hid (ofOut outL x=if r.2=x-1 then outL.set (outL.length-1) (r.1,x) else outL++[(x,x)]):=by
    unfold Hid ofOut;rw[List.getLast?_eq_getElem?,hr]
   clear hr hfz
   by_cases hq:r.2=x-1
   ·have HO:Hid (ofOut outL x=outL.set (outL.length-1) (r.1,x)):=by unfold Hid;rw[HBO.out,if_pos hq]
    have hq':(r.2==x-1)=true:=by simpa using hq
    have HQ:=hid hq
    have HS:=hid hset
    clear hq hset
    go_wp2_with (go_at_call 190;with_reducible refine (QM ps x vp _ _ (HPR.out _ (hbr.setCell (by exact hg1) _))).mono ?_;rintro e wx ⟨rfl,rfl⟩)
    go_roundg n
    case measure=>omega
    case rel=>exact⟨outL.set (outL.length-1) (r.1,x),_,_,HS.out,rfl,rfl,HBD.out x |>.1,HBD.out x |>.2,hbr.setCell (by exact hg1) _,by have:=HI.out;rw[HO.out]at this;exact this,HNX.out,by have:=hlen.out;unfold Hid;rw[List.length_set];omega⟩
   ·have HO:Hid (ofOut outL x=outL++[(x,x)]):=by unfold Hid;rw[HBO.out,if_neg hq]
    have hq':(r.2==x-1)=false:=by simpa using hq
    have HQ:=hid hq
    clear hq hset
    go_wp2_with (first|(at_builtin;with_reducible refine Qj rfl (.tmp 34) (.tmp 38) _ rfl Q4 (by decide) (by decide) (fun _ _ h=>h.one) rfl (hown.alloc _) rfl (SlP.one (x:=(x,x)) JN.out rfl _ rfl) HL.out (by rw[World.size_alloc];omega) ?_;intro v1 w1 hown1 hb1 _)|(go_at_call 190;with_reducible refine (QM ps x vp _ _ (HPR.out _ ((hbr.alloc hsz _).trans hb1))).mono ?_;rintro e wx ⟨rfl,rfl⟩))
    go_roundg n
    case measure=>omega
    case rel=>exact⟨outL++[(x,x)],_,_,hown1,rfl,rfl,HBD.out x |>.1,HBD.out x |>.2,(hbr.alloc hsz _).trans hb1,by have:=HI.out;rw[HO.out]at this;exact this,HNX.out,by have:=hlen.out;unfold Hid;simp at this ⊢;omega⟩
theorem Vc (out:List (Int×Int))(x y:Int):(byOut out x y).length<=out.length+1:=by
 unfold byOut
 cases h:out.getLast? with
 |none=>simp
 |some r=>dsimp only;split<;>simp
theorem JY (a b:List (Int×Int))(how:Int)(ps:List Int):∀ (n:Nat) (s:Int×Bool) (out:List (Int×Int)),(byGo a b how ps n s out).length<=out.length+n
 |0,s,out=>by simp[byGo]
 |n+1,s,out=>by
  rw[byGo]
  split
  ·have h1:=JY a b how ps n (nextL ps s.1) (if inn how (hasL a s.1) (hasL b s.1) then byOut out s.1 (nextL ps s.1).1 else out)
   have h2:=Vc out s.1 (nextL ps s.1).1
   split at h1<;>rename_i hc
   ·rw[if_pos hc];omega
   ·rw[if_neg hc];omega
  ·omega
theorem Xs (a b:List (Int×Int))(how:Int):(byL a b how).length<=2*a.length+2*b.length+1:=by
 have:=JY a b how (endsL a++endsL b) ((endsL a++endsL b).length+1) (nextL (endsL a++endsL b) 0) []
 have h1:=ZM a
 have h2:=ZM b
 simp at this
 unfold byL
 simp
 omega
def SpsOk (c:List Sp):Prop:=∀ s∈c,0<=s.fr/\s.fr<=1099511627777/\0<=s.hi/\s.hi<=1099511627777
theorem JZ {c:List Sp}(h:SpsOk c)(dc:Int):QL (partL c dc):=fun r hr=>by
 unfold partL at hr
 obtain⟨s,hs,rfl⟩:=List.mem_map.1 hr
 exact h s (List.mem_filter.1 hs).1
def ZN (a b:List Sp)(how:Int)(k:Nat):List Sp:=(List.range k).flatMap fun (dc:Nat)=>Qr (dc:Int) (byL (partL a dc) (partL b dc) how)
def ctxBy (a b:List Sp)(how:Int):List Sp:=ZN a b how 4
theorem Q7 (a b:List Sp)(how:Int):∀ k,(ZN a b how k).length<=k*(2*a.length+2*b.length+1)
 |0=>by simp[ZN]
 |k+1=>by
  have h:=Q7 a b how k
  have h1:=Xs (partL a k) (partL b k) how
  have h2:=Qs a k
  have h3:=Qs b k
  unfold ZN at *
  rw[List.range_succ,List.flatMap_append,List.length_append,Nat.add_mul]
  simp only[List.flatMap_cons,List.flatMap_nil,List.append_nil,Qr,List.length_map]at *
  omega
theorem Vd (a b:List Sp)(how:Int)(va vb:Value)(w:World)(ha:SlP w w.heap.size 3 SpE va a)(hb:SlP w w.heap.size 3 SpE vb b)(hN:a.length<=50000)(hN':b.length<=50000)(hR:SpsOk a)(hR':SpsOk b)(hh:how=0∨how=1∨how=2) :
  Calls Tryz.prog 123 #[va,vb,.int .i64 how] w (RetO w 45 3 (fun _=>SpE) (ctxBy a b how)):=by
 go_enter Tryz.func123,Tryz.ntmps123
 go_wp2_with fail
 go_loopw [7,9] (fun v i wr=>∃ k:Nat,k<=4/\i=.int .i64 k/\OwnP wr w.heap.size 45 3 SpE v (ZN a b how k)/\Below w.heap.size w wr) (fun _ i _=>4-(intOf i).toNat)
 case atStart=>exact⟨0,Nat.zero_le _,rfl,OwnP.nil,Below.refl _ _⟩
 case round=>
  obtain⟨k,hk,rfl,hown,hbr⟩:=hrel
  have hsz:=hbr.size
  by_cases hlt:k<4
  ·have hpa:=Qs a k
   have hpb:=Qs b k
   have hl:=Xs (partL a k) (partL b k) how
   have hcl:=Q7 a b how k
   have HL:Hid ((ZN a b how k).length+(Qr (k:Int) (byL (partL a k) (partL b k) how)).length<=Few):=by
    have:k*(2*a.length+2*b.length+1)<=3*(2*a.length+2*b.length+1):=Nat.mul_le_mul_right _ (by omega)
    unfold Hid Few Qr;rw[List.length_map];omega
   have HX:Hid (ZN a b how (k+1)=ZN a b how k++Qr (k:Int) (byL (partL a k) (partL b k) how)):=by
    unfold Hid ZN;rw[List.range_succ,List.flatMap_append];simp
   have HLL:=hid hl
   clear hcl hl
   go_wp2_with fail
   refine (ZB a k va wr (ha.imp hbr hsz fun _ _ _ h=>h) (by omega)).mono ?_
   rintro e w1 ⟨v1,rfl,ho1,hb1⟩
   have hs1:=hb1.size
   go_wp2_with fail
   refine (ZB b k vb w1 (hb.imp (hbr.trans (hb1.mono hsz)) (by omega) fun _ _ _ h=>h) (by omega)).mono ?_
   rintro e w2 ⟨v2,rfl,ho2,hb2⟩
   have hs2:=hb2.size
   have s1:=(ho1.grow hb2).sl (by unfold Big;omega)
   have s2:=ho2.sl (by unfold Big;omega)
   clear ho1 ho2
   go_wp2_with fail
   refine (K9 (partL a k) (partL b k) how v1 v2 w2 s1 s2 (by omega) (by omega) (JZ hR k) (JZ hR' k) hh).mono ?_
   rintro e w3 ⟨v3,rfl,ho3,hb3⟩
   have hs3:=hb3.size
   have s3:=ho3.sl (by have:=HLL.out;unfold Big;omega)
   clear ho3
   go_wp2_with fail
   refine (Ye _ k v3 w3 s3 (by have:=HLL.out;omega) ⟨by omega,by omega⟩).mono ?_
   rintro e w4 ⟨v4,rfl,ho4,hb4⟩
   have hs4:=hb4.size
   have s4:=ho4.sl (by have:=HL.out;unfold Few at this;unfold Big;omega)
   have hB4:Below wr.heap.size wr w4:=((hb1.trans (hb2.mono hs1)).trans (hb3.mono (by omega))).trans (hb4.mono (by omega))
   clear ho4
   go_wp2_with (at_builtin;with_reducible refine Qj rfl (.tmp 12) (.tmp 22) _ rfl Yu (by decide) (by decide) (fun _ _ h=>h.one) rfl (hown.grow hB4) rfl s4 HL.out (by omega) ?_;intro v5 w5 hown5 hb5 _)
   go_roundw
   case rel=>exact⟨k+1,by omega,by go_num,by rw[HX.out];exact hown5,(hbr.trans (hB4.mono hsz)).trans hb5⟩
   case measure=>simp[intOf];omega
  ·obtain rfl:k=4:=by omega
   go_wp2_with fail
   go_ret
   exact⟨_,rfl,hown,hbr⟩
def numsL (l:List Dt)(dc:Int):List Int:=(l.filter fun d=>d.dc==dc).map fun d=>d.n
def Zu (l:List Dt)(k:Nat):List Sp:=(List.range k).flatMap fun (dc:Nat)=>Qr (dc:Int) (ofL (numsL l dc))
def ctxOf (l:List Dt):List Sp:=Zu l 4
theorem Y0 {c:List Dt}{k:Nat}{x:Dt}(h:c[k]?=some x)(dc:Int):numsL (c.take (k+1)) dc=numsL (c.take k) dc++(if x.dc=dc then [x.n] else []):=by
 unfold numsL
 rw[List.take_add_one,h]
 by_cases hd:x.dc=dc<;>simp[hd]
theorem QV (c:List Dt)(dc:Int):(numsL c dc).length<=c.length:=by
 unfold numsL;rw[List.length_map];exact List.length_filter_le _ _
theorem Z4 (l:List Dt):∀ k,(Zu l k).length<=k*(l.length+1)
 |0=>by simp[Zu]
 |k+1=>by
  have h:=Z4 l k
  have h1:=Xr (numsL l k)
  have h2:=QV l k
  unfold Zu at *
  rw[List.range_succ,List.flatMap_append,List.length_append,Nat.add_mul]
  simp only[List.flatMap_cons,List.flatMap_nil,List.append_nil,Qr,List.length_map]at *
  omega
theorem Ve (l:List Dt)(vl:Value)(w:World)(hl:SlP w w.heap.size 2 DtE vl l)(hN:l.length<=100000)(hR:∀ d∈l,0<=d.n/\d.n<=1099511627778) :
  Calls Tryz.prog 124 #[vl] w (RetO w 45 3 (fun _=>SpE) (ctxOf l)):=by
 obtain⟨A,n,rfl,b1,b2,b3⟩:=hl
 unfold Big at b2
 go_enter Tryz.func124,Tryz.ntmps124
 go_wp2_with fail
 go_loopw [3,7] (fun v i wr=>∃ k:Nat,k<=4/\i=.int .i64 k/\OwnP wr w.heap.size 45 3 SpE v (Zu l k)/\Below w.heap.size w wr) (fun _ i _=>4-(intOf i).toNat)
 case atStart=>exact⟨0,Nat.zero_le _,rfl,OwnP.nil,Below.refl _ _⟩
 case round=>
  obtain⟨k,hk,rfl,hown,hbr⟩:=hrel
  have hsz:=hbr.size
  by_cases hlt:k<4
  ·have HL:Hid ((Zu l k).length+(Qr (k:Int) (ofL (numsL l k))).length<=Few):=by
    have h1:=Xr (numsL l k)
    have h2:=QV l k
    have hcl:=Z4 l k
    have:k*(l.length+1)<=3*(l.length+1):=Nat.mul_le_mul_right _ (by omega)
    unfold Hid Few Qr;rw[List.length_map];omega
   have HX:Hid (Zu l (k+1)=Zu l k++Qr (k:Int) (ofL (numsL l k))):=by
    unfold Hid Zu;rw[List.range_succ,List.flatMap_append];simp
   have hlen:=QV l k
   have hlt':decide ((k:Int)<4)=true:=by simp;omega
   go_wp2_with fail
   obtain⟨wo,rfl⟩:∃ wo:World,wo=wr:=⟨_,rfl⟩
   go_loopw [5,12] (fun v i wr=>∃ j:Nat,j<=l.length/\i=.int .i64 j/\OwnP wr wo.heap.size 2 1 InE v (numsL (l.take j) k)/\Below wo.heap.size wo wr) (fun _ i _=>l.length-(intOf i).toNat)
   case atStart=>exact⟨0,Nat.zero_le _,rfl,OwnP.nil,Below.refl _ _⟩
   case round=>
    obtain⟨j,hj,rfl,hin,hbi⟩:=hrel
    have hsi:=hbi.size
    by_cases hjl:j<l.length
    ·obtain⟨x,hx⟩:∃ x,l[j]?=some x:=⟨_,List.getElem?_eq_getElem hjl⟩
     obtain⟨b,off,rfl,hbB,hc⟩:=b3 (by rintro rfl;simp at hjl)
     obtain⟨cs,⟨rfl,hok⟩,_,hu⟩:=hc j _ hx
     have e0:wr.cell? ⟨b,off+j*2,none⟩=some (.int .i64 x.dc):=((hbi.cell (by show b<_;omega)).trans (hbr.cell hbB)).trans (hu 0 _ rfl)
     have e1:wr.cell? ⟨b,off+j*2+1,none⟩=some (.int .i64 x.n):=((hbi.cell (by show b<_;omega)).trans (hbr.cell hbB)).trans (hu 1 _ rfl)
     have HT:=hid (Y0 hx k)
     have HLI:Hid ((numsL (l.take j) k).length + [x.n].length<=Few):=by
      have:=QV (l.take j) k
      unfold Hid Few;simp at this ⊢;omega
     have JN:Hid (InE x.n [.int .i64 x.n]):=⟨rfl,hok.n⟩
     clear hu hx hc b3 hok
     by_cases hd:x.dc=k
     ·have hd':(x.dc==(k:Int))=true:=by simpa using hd
      have HD:=hid hd
      clear hd
      go_wp2_with (at_builtin;with_reducible refine Qj rfl (.tmp 22) (.tmp 28) _ rfl Xk (by decide) (by decide) (fun _ _ h=>h.one) rfl (hin.alloc _) rfl (SlP.one JN.out rfl _ rfl) HLI.out (by rw[World.size_alloc];omega) ?_;intro v1 w1 hown1 hb1 _)
      go_roundw
      case rel=>exact⟨j+1,by omega,by go_num,by rw[HT.out,if_pos HD.out];exact hown1,(hbi.alloc hsi _).trans hb1⟩
      case measure=>simp[intOf];omega
     ·have hd':(x.dc==(k:Int))=false:=by simpa using hd
      have HD:=hid hd
      clear hd
      go_wp2_with fail
      go_roundw
      case rel=>exact⟨j+1,by omega,by go_num,by rw[HT.out,if_neg HD.out,List.append_nil];exact hin,hbi⟩
      case measure=>simp[intOf];omega
    ·obtain rfl:j=l.length:=by omega
     rw[List.take_of_length_le (Nat.le_refl _)]at hin
     have sin:=hin.sl (by unfold Big;omega)
     have hnr:Hid (∀ x∈numsL l k,0<=x/\x<=1099511627778):=fun x hx=>by
      unfold numsL at hx
      obtain⟨d,hd,rfl⟩:=List.mem_map.1 hx
      exact hR d (List.mem_filter.1 hd).1
     clear hin
     go_wp2_with fail
     refine (Vb (numsL l k) _ wr sin (by omega) hnr.out).mono ?_
     rintro e w1 ⟨v1,rfl,ho1,hb1⟩
     have hs1:=hb1.size
     have hol:=Xr (numsL l k)
     have s1:=ho1.sl (by unfold Big;omega)
     clear ho1
     go_wp2_with fail
     refine (Ye _ k v1 w1 s1 (by omega) ⟨by omega,by omega⟩).mono ?_
     rintro e w4 ⟨v4,rfl,ho4,hb4⟩
     have hs4:=hb4.size
     have s4:=ho4.sl (by have:=HL.out;unfold Few at this;unfold Big;omega)
     have hB4:Below wo.heap.size wo w4:=(hbi.trans (hb1.mono hsi)).trans (hb4.mono (by omega))
     clear ho4
     go_wp2_with (at_builtin;with_reducible refine Qj rfl (.tmp 31) (.tmp 35) _ rfl Yu (by decide) (by decide) (fun _ _ h=>h.one) rfl (hown.grow hB4) rfl s4 HL.out (by omega) ?_;intro v5 w5 hown5 hb5 _)
     go_roundw
     case rel=>exact⟨k+1,by omega,by go_num,by rw[HX.out];exact hown5,(hbr.trans (hB4.mono hsz)).trans hb5⟩
     case measure=>simp[intOf];omega
  ·obtain rfl:k=4:=by omega
   go_wp2_with fail
   go_ret
   exact⟨_,rfl,hown,hbr⟩
theorem SlA.nil {α:Type}{w:World}{ok:Nat->Prop}{sz:Nat}{E:α->List Value->Prop}:SlA w ok sz E (.slice none 0 0) ([]:List α):=⟨none,0,rfl,Nat.le_refl _,by simp,fun h=>absurd rfl h⟩
theorem Xt (t:Tr)(w:World)(ve vk:Value)(h:t.rd w w.heap.size ve vk)(hN:t.sz<=100000) :
  Calls Tryz.prog 41 #[.agg #[ve,vk]] w (RetD w 91 5 LfA (fun _=>False) (t.lvs [])):=by
 obtain⟨A3,n3,A4,n4,rfl,rfl⟩:=Qk h
 have hr:=Qi ((Below.refl _ w).alloc (Nat.le_refl _) (.cells #[.slice A3 t.es.length n3,.slice A4 t.ks.length n4] 25)) (by simp:w.heap.size<=(w.alloc (.cells #[.slice A3 t.es.length n3,.slice A4 t.ks.length n4] 25)).heap.size) _ _ _ h
 have HR:=hid hr
 clear hr h
 go_enter Tryz.func41,Tryz.ntmps41
 go_wp2_with fail
 refine (XM t [] (fun _=>False) _ _ _ _ HR.out SlA.nil (fun _ h=>h.elim) (by simpa using hN)).mono ?_
 rintro e w1 ⟨v,rfl,hv,hb⟩
 have hs:=hb.size
 simp only[World.size_alloc]at hs hb
 go_wp2_with fail
 go_ret
 refine⟨v,rfl,(hv.mono (by simp)).weak LfA.mon fun b hb=>?_,((Below.refl _ w).alloc (Nat.le_refl _) _).trans (hb.mono (by omega))⟩
 rcases hb with h|h
 ·exact h.elim
 ·refine .inr ?_;rw[World.size_alloc]at h;omega
mutual
theorem lvs_dots:∀ (t:Tr) (p:List ByteArray),(t.lvs p).map (fun x=>x.2.dot)=t.dots
 |.mk es ks,p=>by rw[Tr.lvs,Tr.dots,List.map_append,lvsL_dots ks p,List.map_map];rfl
theorem lvsL_dots:∀ (ks:List (ByteArray×Tr)) (p:List ByteArray),(Tr.lvsL ks p).map (fun x=>x.2.dot)=Tr.dotsL ks
 |[],p=>by rw[Tr.lvsL,Tr.dotsL];rfl
 |(k,t) :: ks,p=>by rw[Tr.lvsL,Tr.dotsL,List.map_append,lvs_dots t,lvsL_dots ks]
end
theorem Yl (t:Tr):t.dots.length<=t.sz:=by rw[←lvs_dots t [],List.length_map];exact lvs_len t []
theorem Yx (t:Tr)(w:World)(ve vk:Value)(h:t.rd w w.heap.size ve vk)(hN:t.sz<=90000)(hR:∀ d∈t.dots,0<=d.n/\d.n<=1099511627778) :
  Calls Tryz.prog 78 #[.agg #[ve,vk]] w (RetO w 45 3 (fun _=>SpE) (ctxOf t.dots)):=by
 obtain⟨A3,n3,A4,n4,rfl,rfl⟩:=Qk h
 have hr:=Qi ((Below.refl _ w).alloc (Nat.le_refl _) (.cells #[.slice A3 t.es.length n3,.slice A4 t.ks.length n4] 25)) (by simp:w.heap.size<=(w.alloc (.cells #[.slice A3 t.es.length n3,.slice A4 t.ks.length n4] 25)).heap.size) _ _ _ h
 have HR:=hid hr
 have hll:=lvs_len t []
 have hdl:=Yl t
 have hld:=hid (lvs_dots t [])
 clear hr h
 go_enter Tryz.func78,Tryz.ntmps78
 go_wp2_with fail
 refine (Xt t _ _ _ HR.out (by omega)).mono ?_
 rintro e w1 ⟨v,rfl,hv,hb1⟩
 have hs1:=hb1.size
 simp only[World.size_alloc]at hs1 hb1
 have hB1:Below w.heap.size w w1:=((Below.refl _ w).alloc (Nat.le_refl _) _).trans (hb1.mono (by omega))
 obtain⟨A,c,rfl,l1,l2,l3⟩:=hv.sl LfA.mon (by unfold Big;omega)
 unfold Big at l2
 clear hv
 go_wp2_with fail
 go_loopw [3,10] (fun v i wr=>∃ k:Nat,k<=(t.lvs []).length/\i=.int .i64 k/\OwnP wr w1.heap.size 78 2 DtE v (((t.lvs []).take k).map (fun x=>x.2.dot))/\Below w1.heap.size w1 wr) (fun _ i _=>(t.lvs []).length-(intOf i).toNat)
 case atStart=>exact⟨0,Nat.zero_le _,rfl,OwnP.nil,Below.refl _ _⟩
 case round=>
  obtain⟨k,hk,rfl,hown,hb⟩:=hrel
  have hsz:=hb.size
  by_cases hlt:k<(t.lvs []).length
  ·obtain⟨x,hx⟩:∃ x,(t.lvs [])[k]?=some x:=⟨_,List.getElem?_eq_getElem hlt⟩
   obtain⟨b,off,rfl,hbB,hc⟩:=l3 (by intro e;rw[e]at hlt;simp at hlt)
   obtain⟨cs,⟨A7,c7,rfl,_,hok⟩,_,hu⟩:=hc k _ hx
   have e0:wr.cell? ⟨b,off+k*5+1,none⟩=some (.int .i64 x.2.dc):=(hb.cell hbB).trans (hu 1 _ rfl)
   have e1:wr.cell? ⟨b,off+k*5+2,none⟩=some (.int .i64 x.2.n):=(hb.cell hbB).trans (hu 2 _ rfl)
   have HX:Hid (((t.lvs []).take (k+1)).map (fun x=>x.2.dot)=((t.lvs []).take k).map (fun x=>x.2.dot)++[x.2.dot]):=by
    unfold Hid;rw[List.take_add_one,hx];simp
   have HL:Hid ((((t.lvs []).take k).map (fun x=>x.2.dot)).length + [x.2.dot].length<=Few):=by unfold Hid Few;simp;omega
   have JN:Hid (DtE x.2.dot [.int .i64 x.2.dc,.int .i64 x.2.n]):=⟨rfl,hok.dc,hok.n⟩
   clear hu hx hc l3 hok
   go_wp2_with (at_builtin;with_reducible refine Qj rfl (.tmp 13) (.tmp 20) _ rfl eiDot (by decide) (by decide) (fun _ _ h=>h.one) rfl (hown.alloc _) rfl (SlP.one JN.out rfl _ rfl) HL.out (by rw[World.size_alloc];omega) ?_;intro v1 w2 hown1 hb2 _)
   go_roundw
   case rel=>exact⟨k+1,by omega,by go_num,by rw[HX.out];exact hown1,(hb.alloc (by omega) _).trans hb2⟩
   case measure=>simp[intOf];omega
  ·obtain rfl:k=(t.lvs []).length:=by omega
   rw[List.take_of_length_le (Nat.le_refl _),hld.out]at hown
   have sown:=hown.sl (by unfold Big;omega)
   clear hown
   go_wp2_with fail
   refine (Ve t.dots _ wr sown (by omega) hR).mono ?_
   rintro e w3 ⟨v3,rfl,hv3,hb3⟩
   go_wp2_with fail
   go_ret
   exact⟨v3,rfl,hv3.mono (by omega),(hB1.trans (hb.mono (by omega))).trans (hb3.mono (by omega))⟩
def RetT (w:World)(t:Tr)(e:Ending)(w':World):Prop:=
 ∃ ve vk,e=.returned (.agg #[ve,vk])/\t.rda w' (fun b=>w.heap.size<=b/\b<w'.heap.size) ve vk/\Below w.heap.size w w'
inductive Tr.Ord:Tr->Prop
 |mk {es:List En}{ks:List Kd}(h1:es.Pairwise fun a b=>a.dot.lt b.dot=true) (h2:ks.Pairwise fun a b=>ltS a.1 b.1=true) (h3:∀ k t,(k,t)∈ks->k≠ByteArray.empty/\t.empty=false) (h4:∀ k t,(k,t)∈ks->Tr.Ord t):Tr.Ord (.mk es ks)
theorem Zn {es:List En}{ks:List Kd}:Tr.Ord (.mk es ks)↔(es.Pairwise fun a b=>a.dot.lt b.dot=true)/\(ks.Pairwise fun a b=>ltS a.1 b.1=true)/\∀ k t,(k,t)∈ks->k≠ByteArray.empty/\t.empty=false/\t.Ord:=
 ⟨fun h=>by cases h with|mk h1 h2 h3 h4=>exact⟨h1,h2,fun k t hm=>⟨(h3 k t hm).1,(h3 k t hm).2,h4 k t hm⟩⟩,fun h=>.mk h.1 h.2.1 (fun k t hm=>⟨(h.2.2 k t hm).1,(h.2.2 k t hm).2.1⟩) fun k t hm=>(h.2.2 k t hm).2.2⟩
theorem Ord.mk' {es:List En}{ks:List Kd}(h1:es.Pairwise fun a b=>a.dot.lt b.dot=true)(h2:ks.Pairwise fun a b=>ltS a.1 b.1=true)(h3:∀ k t,(k,t)∈ks->k≠ByteArray.empty/\t.empty=false/\t.Ord):Tr.Ord (.mk es ks):=Zn.2 ⟨h1,h2,h3⟩
theorem XN:∀ (es:List En) (p:Option Dt),entsB p es=true->(es.Pairwise fun a b=>a.dot.lt b.dot=true)/\∀ e∈es,okP p e.dot=true
 |[],_,_=>⟨.nil,fun _ h=>by cases h⟩
 |e :: es,p,h=>by
  rw[QQ,Bool.and_eq_true,Bool.and_eq_true]at h
  obtain⟨h1,h2⟩:=XN es _ h.2
  refine⟨.cons (fun a ha=>h2 a ha) h1,fun a ha=>?_⟩
  rcases List.mem_cons.1 ha with rfl|ha
  ·exact h.1.2
  ·exact KZ h.1.2 (h2 a ha)
theorem Vg {p:Option ByteArray}{a b:ByteArray}(h:okK p a=true)(k:ltS a b=true):okK p b=true:=by
 cases p with
 |none=>rfl
 |some q=>exact ZI h k
theorem qQ9 {k:ByteArray}(h:keyB k=true):k≠ByteArray.empty:=fun e=>by
 subst e;simp[keyB]at h
theorem XO (d:Int):∀ (ks:List Kd) (p:Option ByteArray),Tr.rightL p ks d=true->(ks.Pairwise fun a b=>ltS a.1 b.1=true)/\(∀ x∈ks,okK p x.1=true)/\∀ k t,(k,t)∈ks->k≠ByteArray.empty/\t.empty=false/\t.right (d-1)=true
 |[],_,_=>⟨.nil,fun _ h=>(by cases h),fun _ _ h=>by cases h⟩
 |(k,t) :: ks,p,h=>by
  rw[QE,Bool.and_eq_true,Bool.and_eq_true,Bool.and_eq_true,Bool.and_eq_true]at h
  obtain⟨⟨⟨⟨a1,a2⟩,a3⟩,a4⟩,a5⟩:=h
  obtain⟨h1,h2,h3⟩:=XO d ks _ a5
  refine⟨.cons (fun a ha=>h2 a ha) h1,fun a ha=>?_,fun k' t' hm=>?_⟩
  ·rcases List.mem_cons.1 ha with rfl|ha
   ·exact a2
   ·exact Vg a2 (h2 a ha)
  ·rcases List.mem_cons.1 hm with e|hm
   ·cases e;exact⟨qQ9 a1,by simpa using a3,a4⟩
   ·exact h3 k' t' hm
theorem XP:∀ (t:Tr) (d:Int),t.right d=true->t.Ord:=by
 intro t
 induction t using Tr.ind with
 |h es ks ih=>
 intro d h
 rw[Tr.right,Bool.and_eq_true,Bool.and_eq_true]at h
 obtain⟨h1,h2,h3⟩:=XO d ks none h.2
 exact Ord.mk' (XN es none h.1.2).1 h1 fun k t hm=>⟨(h3 k t hm).1,(h3 k t hm).2.1,ih k t hm _ (h3 k t hm).2.2⟩
/-! the leaves of a tree -/
mutual
theorem lvs_pre:∀ (t:Tr) (p q:List ByteArray),t.lvs (p++q)=(t.lvs q).map fun x=>(p++x.1,x.2)
 |.mk es ks,p,q=>by rw[Tr.lvs,Tr.lvs,List.map_append,List.map_map,lvsL_pre ks p q];rfl
theorem lvsL_pre:∀ (ks:List (ByteArray×Tr)) (p q:List ByteArray),Tr.lvsL ks (p++q)=(Tr.lvsL ks q).map fun x=>(p++x.1,x.2)
 |[],p,q=>rfl
 |(k,t) :: ks,p,q=>by rw[Tr.lvsL,Tr.lvsL,List.map_append,lvsL_pre ks p q,List.append_assoc,lvs_pre t p (q++[k])]
end
theorem qQ2 (t:Tr)(p:List ByteArray):t.lvs p=(t.lvs []).map fun x=>(p++x.1,x.2):=by
 have:=lvs_pre t p [];simpa using this
theorem V7 {ks:List Kd}{p:List ByteArray}{x:Lf}:x∈Tr.lvsL ks p↔∃ k t,(k,t)∈ks/\x∈t.lvs (p++[k]):=by
 induction ks with
 |nil=>simp[Tr.lvsL]
 |cons y ks ih=>
  obtain⟨k,t⟩:=y
  rw[Tr.lvsL,List.mem_append,ih]
  constructor
  ·rintro (h|⟨k',t',hm,h⟩)
   ·exact⟨k,t,by simp,h⟩
   ·exact⟨k',t',by simp[hm],h⟩
  ·rintro⟨k',t',hm,h⟩
   rcases List.mem_cons.1 hm with e|hm
   ·cases e;exact .inl h
   ·exact .inr ⟨k',t',hm,h⟩
theorem Vh {es:List En}{ks:List Kd}{x:Lf}:x∈(Tr.mk es ks).lvs []↔(x.1=[]/\x.2∈es)∨∃ k t qs,(k,t)∈ks/\x.1=k :: qs/\(qs,x.2)∈t.lvs []:=by
 rw[Tr.lvs,List.mem_append,V7]
 constructor
 ·rintro (h|⟨k,t,hm,h⟩)
  ·obtain⟨e,he,rfl⟩:=List.mem_map.1 h
   exact .inl ⟨rfl,he⟩
  ·rw[qQ2]at h
   obtain⟨y,hy,rfl⟩:=List.mem_map.1 h
   exact .inr ⟨k,t,y.1,hm,rfl,hy⟩
 ·obtain⟨p,e⟩:=x
  rintro (⟨h1,h2⟩|⟨k,t,qs,hm,h1,h2⟩)
  ·cases h1;exact .inl (List.mem_map.2 ⟨e,h2,rfl⟩)
  ·cases h1;exact .inr ⟨k,t,hm,by rw[qQ2];exact List.mem_map.2 ⟨(qs,e),h2,rfl⟩⟩
theorem ZC {es:List En}{ks:List Kd}{e:En}:(([],e):Lf)∈(Tr.mk es ks).lvs []↔e∈es:=by
 rw[Vh];simp
theorem Qt {es:List En}{ks:List Kd}{e:En}{k:ByteArray}{qs:List ByteArray}:((k :: qs,e):Lf)∈(Tr.mk es ks).lvs []↔∃ t,(k,t)∈ks/\(qs,e)∈t.lvs []:=by
 rw[Vh]
 constructor
 ·rintro (⟨h,_⟩|⟨k',t,qs',hm,h,h2⟩)
  ·cases h
  ·cases h;exact⟨t,hm,h2⟩
 ·rintro⟨t,hm,h⟩;exact .inr ⟨k,t,qs,hm,rfl,h⟩
theorem Xu:∀ (t:Tr),t.Ord->t.empty=false->∃ x,x∈t.lvs []:=by
 intro t
 induction t using Tr.ind with
 |h es ks ih=>
 intro h he
 obtain⟨_,_,h3⟩:=Zn.1 h
 cases es with
 |cons e es=>exact⟨([],e),ZC.2 (by simp)⟩
 |nil=>
  cases ks with
  |nil=>simp[Tr.empty]at he
  |cons y ks=>
   obtain⟨k,t⟩:=y
   obtain⟨x,hx⟩:=ih k t (by simp) (h3 k t (by simp)).2.2 (h3 k t (by simp)).2.1
   exact⟨(k :: x.1,x.2),Qt.2 ⟨t,by simp,hx⟩⟩
theorem Z5 {α:Type}{r:α->α->Bool}(hi:∀ a,r a a=false)(ht:∀ a b c,r a b=true->r b c=true->r a c=true):∀ {l m:List α},(l.Pairwise fun a b=>r a b=true)->(m.Pairwise fun a b=>r a b=true)->(∀ x,x∈l↔x∈m)->l=m
 |[],[],_,_,_=>rfl
 |[],y :: m,_,_,h=>by have:=(h y).2 (by simp);cases this
 |x :: l,[],_,_,h=>by have:=(h x).1 (by simp);cases this
 |x :: l,y :: m,hl,hm,h=>by
  rw[List.pairwise_cons]at hl hm
  have hxy:x=y:=by
   rcases List.mem_cons.1 ((h x).1 (by simp)) with e|e
   ·exact e
   ·rcases List.mem_cons.1 ((h y).2 (by simp)) with e'|e'
    ·exact e'.symm
    ·have:=ht _ _ _ (hl.1 y e') (hm.1 x e);rw[hi]at this;cases this
  subst hxy
  congr 1
  refine Z5 hi ht hl.2 hm.2 fun z=>?_
  constructor
  ·intro hz
   rcases List.mem_cons.1 ((h z).1 (List.mem_cons_of_mem _ hz)) with e|e
   ·subst e;have:=hl.1 z hz;rw[hi]at this;cases this
   ·exact e
  ·intro hz
   rcases List.mem_cons.1 ((h z).2 (List.mem_cons_of_mem _ hz)) with e|e
   ·subst e;have:=hm.1 z hz;rw[hi]at this;cases this
   ·exact e
theorem Ym {ks:List Kd}(h:ks.Pairwise fun a b=>ltS a.1 b.1=true){k:ByteArray}{s t:Tr}(hs:(k,s)∈ks)(ht:(k,t)∈ks):s=t:=by
 induction ks with
 |nil=>cases hs
 |cons y ks ih=>
  rw[List.pairwise_cons]at h
  rcases List.mem_cons.1 hs with e|hs
  ·rcases List.mem_cons.1 ht with e'|ht
   ·rw[←e]at e';cases e';rfl
   ·have:=h.1 _ ht;rw[←e]at this;simp only[QR]at this;cases this
  ·rcases List.mem_cons.1 ht with e'|ht
   ·have:=h.1 _ hs;rw[←e']at this;simp only[QR]at this;cases this
   ·exact ih h.2 hs ht
theorem qZa:∀ (s t:Tr),s.Ord->t.Ord->(∀ x,x∈s.lvs []↔x∈t.lvs [])->s=t:=by
 intro s
 induction s using Tr.ind with
 |h es ks ih=>
 intro t hs ht h
 obtain⟨es',ks'⟩:=t
 obtain⟨s1,s2,s3⟩:=Zn.1 hs
 obtain⟨t1,t2,t3⟩:=Zn.1 ht
 have he:es=es':=Z5 (r:=fun a b:En=>a.dot.lt b.dot) (fun a=>Km _) (fun _ _ _=>XI) s1 t1 fun e=>by
  rw[←ZC (ks:=ks),←ZC (ks:=ks')];exact h _
 have hk:∀ k s,(k,s)∈ks->(k,s)∈ks':=fun k s hm=>by
  obtain⟨h1,h2,h3⟩:=s3 k s hm
  obtain⟨x,hx⟩:=Xu s h3 h2
  obtain⟨u,hu,hxu⟩:=Qt.1 ((h (k :: x.1,x.2)).1 (Qt.2 ⟨s,hm,hx⟩))
  have:s=u:=ih k s hm u h3 (t3 k u hu).2.2 fun y=>by
   constructor
   ·intro hy
    obtain⟨v,hv,hyv⟩:=Qt.1 ((h (k :: y.1,y.2)).1 (Qt.2 ⟨s,hm,hy⟩))
    rw[Ym t2 hu hv];exact hyv
   ·intro hy
    obtain⟨v,hv,hyv⟩:=Qt.1 ((h (k :: y.1,y.2)).2 (Qt.2 ⟨u,hu,hy⟩))
    rw[Ym s2 hm hv];exact hyv
  rw[this];exact hu
 have hk':∀ k u,(k,u)∈ks'->(k,u)∈ks:=fun k u hm=>by
  obtain⟨h1,h2,h3⟩:=t3 k u hm
  obtain⟨x,hx⟩:=Xu u h3 h2
  obtain⟨s,hs',_⟩:=Qt.1 ((h (k :: x.1,x.2)).2 (Qt.2 ⟨u,hm,hx⟩))
  have:=Ym t2 hm (hk k s hs')
  rw[this];exact hs'
 have hkk:ks=ks':=Z5 (r:=fun a b:Kd=>ltS a.1 b.1) (fun a=>QR _) (fun _ _ _=>ZI) s2 t2 fun ⟨k,t⟩=>⟨hk k t,hk' k t⟩
 rw[he,hkk]
/-! what Build takes -/
structure LvOk (l:List Lf):Prop where
 key:∀ x∈l,∀ k∈x.1,k≠ByteArray.empty
 one:∀ x∈l,∀ y∈l,x.1=y.1->x.2.dot=y.2.dot->x=y
def kidT (t:Tr)(s:ByteArray):Tr:=match t.ks.find? fun x=>decide (x.1=s) with|some x=>x.2|none=>.mk [] []
theorem Vi:Tr.Ord (.mk [] []):=Ord.mk' .nil .nil fun _ _ h=>by cases h
theorem Xv {t:Tr}(h:t.Ord){s:ByteArray}{u:Tr}(hm:(s,u)∈t.ks):kidT t s=u:=by
 obtain⟨es,ks⟩:=t
 unfold kidT
 cases hf:(Tr.mk es ks).ks.find? fun x=>decide (x.1=s) with
 |none=>
  have:=List.find?_eq_none.1 hf _ hm
  simp at this
 |some x=>
  have h1:=List.find?_some hf
  have h2:=List.mem_of_find?_eq_some hf
  simp at h1
  obtain⟨k,v⟩:=x
  simp only at h1;subst h1
  exact Ym (Zn.1 h).2.1 h2 hm
theorem Yy {t:Tr}{s:ByteArray}(h:∀ u,(s,u)∉t.ks):kidT t s=.mk [] []:=by
 unfold kidT
 rw[List.find?_eq_none.2]
 rintro⟨k,u⟩ hm e
 simp at e;subst e
 exact h u hm
theorem Yn {t:Tr}(h:t.Ord)(s:ByteArray):(kidT t s).Ord:=by
 by_cases hm:∃ u,(s,u)∈t.ks
 ·obtain⟨u,hm⟩:=hm
  rw[Xv h hm]
  obtain⟨es,ks⟩:=t
  exact ((Zn.1 h).2.2 s u hm).2.2
 ·rw[Yy fun u hu=>hm ⟨u,hu⟩];exact Vi
theorem J2 {s:ByteArray}:∀ {ks:List Kd}{x:Kd},ks.find? (fun x=>decide (x.1=s))=some x->x.2.sz<=Tr.szL ks
 |(k,t) :: ks,x,h=>by
  rw[Tr.szL]
  rw[List.find?_cons]at h
  split at h
  ·cases h;simp;omega
  ·have:=J2 h;omega
theorem Xw (t:Tr)(s:ByteArray):(kidT t s).sz<=t.sz:=by
 obtain⟨es,ks⟩:=t
 unfold kidT
 cases hf:(Tr.mk es ks).ks.find? fun x=>decide (x.1=s) with
 |none=>simp[Tr.sz,Tr.szL]
 |some x=>
  have:=J2 (show ks.find? _=some x from hf)
  rw[Tr.sz];simp only;omega
theorem Jr (w:World)(ok:Nat->Prop):(Tr.mk [] []).rda w ok (.slice none 0 0) (.slice none 0 0):=by
 rw[Zz]
 exact⟨⟨none,0,rfl,Nat.le_refl _,by simp,fun h=>absurd rfl h⟩,⟨none,0,rfl,Nat.le_refl _,by simp,fun h=>absurd rfl h⟩⟩
theorem box3 {w:World}{g:Nat}{x y z:Value}{e:TypeId}(hbx:w.heap[g]?=some (.cells #[x,y,z] e (0,0)))(a b c:Value) :
  (((w.setCell ⟨g,0,none⟩ a).setCell ⟨g,1,none⟩ b).setCell ⟨g,2,none⟩ c).cell? ⟨g,0,none⟩=some a/\(((w.setCell ⟨g,0,none⟩ a).setCell ⟨g,1,none⟩ b).setCell ⟨g,2,none⟩ c).cell? ⟨g,1,none⟩=some b/\(((w.setCell ⟨g,0,none⟩ a).setCell ⟨g,1,none⟩ b).setCell ⟨g,2,none⟩ c).cell? ⟨g,2,none⟩=some c /\
   (∀ k,k≠g->(((w.setCell ⟨g,0,none⟩ a).setCell ⟨g,1,none⟩ b).setCell ⟨g,2,none⟩ c).heap[k]?=w.heap[k]?)/\(((w.setCell ⟨g,0,none⟩ a).setCell ⟨g,1,none⟩ b).setCell ⟨g,2,none⟩ c).heap.size=w.heap.size:=by
 have hW:=Qe (i:=2) (Qe (i:=1) (Qe (i:=0) hbx a) b) c
 exact⟨(Qa (i:=0) hW).trans (by simp),(Qa (i:=1) hW).trans (by simp),(Qa (i:=2) hW).trans (by simp),
  fun k hk=>(Below.heap_setCell _ _ _ _ hk).trans ((Below.heap_setCell _ _ _ _ hk).trans (Below.heap_setCell _ _ _ _ hk)),by simp[World.setCell]⟩
def RetC (w:World)(t:Tr)(c:List Sp)(e:Ending)(w':World):Prop:=
 ∃ ve vk vc,e=.returned (.agg #[ve,vk,vc])/\t.rda w' (fun b=>w.heap.size<=b/\b<w'.heap.size) ve vk/\SlA w' (fun b=>w.heap.size<=b/\b<w'.heap.size) 3 SpE vc c/\Below w.heap.size w w'
end Go.Proofs.YtbcoelggdikipaaGreat
