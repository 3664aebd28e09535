/- What the laws need. No condition but those that each lemma states. -/
import Derived.Lib.RowBridge
import Derived.Shelf.SlSortCmp.NoneTotal
import Derived.Shelf.Slices.CompactS
import Derived.Shelf.Slices.In.SortNone
import Derived.Shelf.Sort.Plain
import Derived.Sort.OwnSorted
import Derived.Test.YtbcoelggdikipaaGreatProg
import Derived.Test.YtbcoelggdikipaaGreatUq5
import Derived.Test.YtbcoelggdikipaaGreatUq4
import Derived.Test.YtbcoelggdikipaaGreatUq3
import Derived.Test.YtbcoelggdikipaaGreatUq1
import Derived.Test.YtbcoelggdikipaaGreatUq2
set_option maxRecDepth 100000
set_option maxHeartbeats 8000000
set_option linter.unusedSimpArgs false
namespace Go.Proofs.YtbcoelggdikipaaGreat
open Go.RowKit
theorem zXl:ofL []=[]:=by simp[ofL,ofGo,nextL]
theorem zXm {n:Int}(h:1<=n/\n<=1099511627776):ofL [n]=[(n,n)]:=by
 obtain⟨h1,h2⟩:=ZU (ps:=[n]) (fun x hx=>by simp at hx;subst hx;exact h)
 refine YH _ _ none none h1 ((ZT none (n,n)).2 ⟨⟨h.1,Int.le_refl _,h.2⟩,rfl⟩) fun m=>?_
 rw[Bool.eq_iff_iff,h2]
 simp[hasL,inR]
 omega
theorem VG {d:Dt}(h:d.right=true):(0<=d.dc/\d.dc<4)/\1<=d.n/\d.n<=1099511627776:=by simpa[Dt.right,and_assoc] using h
theorem qVo {d:Dt}(h:d.right=true):ctxOf [d]=[⟨d.dc,d.n,d.n⟩]:=by
 obtain⟨h1,h2⟩:=VG h
 rw[Yv]
 have hk:∀ i:Nat,ofL (numsL [d] (i:Int))=if d.dc=(i:Int) then [(d.n,d.n)] else []:=fun i=>by
  by_cases e:d.dc=(i:Int)
  ·rw[if_pos e,show numsL [d] (i:Int)=[d.n] by simp[numsL,e],zXm h2]
  ·rw[if_neg e,show numsL [d] (i:Int)=[] by simp[numsL,e],zXl]
 unfold QP
 simp only[hk]
 rcases (show d.dc=0∨d.dc=1∨d.dc=2∨d.dc=3 by omega) with e|e|e|e<;>simp[e,List.range_succ,QC]
theorem Xg (a b:List Sp)(how:Int):ctxBy a b how=QP (fun i=>byL (partL a i) (partL b i) how) 4:=rfl
theorem J6:∀ (l:List (Int×Int)) (p:Option Int),runsR p l=true->∀ r∈l,runOk r
 |x :: l,p,h,r,hr=>by
  rw[Qq]at h
  rcases List.mem_cons.1 hr with rfl|hr
  ·exact h.1
  ·exact J6 l _ h.2.2 r hr
theorem Qx {c:List Sp}(h:Qm c=true){i:Nat}(hi:i<4):runsR none (partL c i)=true:=by
 unfold Qm at h
 rw[Bool.and_eq_true,List.all_eq_true]at h
 exact h.2 i (List.mem_range.2 hi)
theorem ZX:∀ (c:List Sp) (L:Int),dcsOk L c=true->∀ s∈c,L<=s.dc/\s.dc<4
 |s :: c,L,h,x,hx=>by
  rw[dcsOk,Bool.and_eq_true,Bool.and_eq_true,decide_eq_true_eq,decide_eq_true_eq]at h
  rcases List.mem_cons.1 hx with rfl|hx
  ·exact⟨h.1.1,h.1.2⟩
  ·have:=ZX c s.dc h.2 x hx;exact⟨by omega,this.2⟩
theorem qQf:∀ (c:List Sp) (L:Nat),dcsOk (L:Int) c=true->∀ n,L+n=4->c=(List.range' L n).flatMap fun (dc:Nat)=>QC (dc:Int) (partL c (dc:Int))
 |c,L,h,0,hn=>by
  cases c with
  |nil=>rfl
  |cons s c=>have:=ZX _ _ h s (by simp);omega
 |c,L,h,n+1,hn=>by
  rw[List.range'_succ,List.flatMap_cons]
  have key:∀ (c:List Sp) (L:Int),dcsOk L c=true->∃ c',c=QC L (partL c L)++c'/\dcsOk (L+1) c'=true:=by
   intro c
   induction c with
   |nil=>intro L _;exact⟨[],by simp[partL,QC],rfl⟩
   |cons s c ih=>
    intro L h
    rw[dcsOk,Bool.and_eq_true,Bool.and_eq_true,decide_eq_true_eq,decide_eq_true_eq]at h
    obtain⟨⟨h1,h2⟩,h3⟩:=h
    by_cases e:s.dc=L
    ·rw[e]at h3
     obtain⟨c',hc,hd⟩:=ih L h3
     refine⟨c',?_,hd⟩
     have hp:partL (s :: c) L=(s.fr,s.hi) :: partL c L:=by simp[partL,e]
     rw[hp]
     conv=>lhs;rw[hc]
     unfold QC
     rw[List.map_cons,List.cons_append]
     congr 1
     cases s;simp at e;simp[e]
    ·refine⟨s :: c,?_,?_⟩
     ·have hp:partL (s :: c) L=[]:=by
       unfold partL
       rw[List.filter_eq_nil_iff.2,List.map_nil]
       intro x hx
       have:s.dc<=x.dc:=by
        rcases List.mem_cons.1 hx with rfl|hx
        ·exact Int.le_refl _
        ·exact (ZX c s.dc h3 x hx).1
       simp;omega
      rw[hp];rfl
     ·rw[dcsOk,h3];simp;omega
  obtain⟨c',hc,hd⟩:=key c L h
  have ih:=qQf c' (L+1) (by exact_mod_cast hd) n (by omega)
  have hpc:∀ dc:Nat,L+1<=dc->partL c dc=partL c' dc:=fun dc hdc=>by
   rw[hc,qQe,Xf,if_neg (by omega)];rfl
  conv=>lhs;rw[hc,ih]
  congr 1
  rw[List.flatMap_def,List.flatMap_def]
  congr 1
  apply List.map_congr_left
  intro i hi
  rw[hpc i (by have:=List.mem_range'_1.1 hi;omega)]
theorem K6 {c:List Sp}(h:Qm c=true):QP (fun i=>partL c i) 4=c:=by
 unfold Qm at h
 rw[Bool.and_eq_true]at h
 have:=qQf c 0 h.1 4 rfl
 unfold QP
 rw[List.range_eq_range']
 exact this.symm
def stayL (c:List Sp)(x:En):List En:=if cHas c x.dot then [] else [x]
def entL (ca cb:List Sp):List En->List En->List En
 |[],[]=>[]
 |x :: a,[]=>stayL cb x++entL ca cb a []
 |[],y :: b=>stayL ca y++entL ca cb [] b
 |x :: a,y :: b=>if x.dot.lt y.dot then stayL cb x++entL ca cb a (y :: b) else if y.dot.lt x.dot then stayL ca y++entL ca cb (x :: a) b else grtE x y :: entL ca cb a b
termination_by a b=>a.length+b.length
theorem XI (c:List Sp)(x:En):(stayL c x).length<=1:=by unfold stayL;split<;>simp
theorem Yw (ca cb:List Sp):∀ (n:Nat) (a b:List En),a.length+b.length<=n->(entL ca cb a b).length<=a.length+b.length
 |n,[],[],_=>by rw[entL];simp
 |0,x :: a,_,h=>by simp at h
 |0,[],y :: b,h=>by simp at h
 |n+1,x :: a,[],h=>by
  have h1:=XI cb x
  have h2:=Yw ca cb n a [] (by simp at h ⊢;omega)
  rw[entL,List.length_append];simp at h2 ⊢;omega
 |n+1,[],y :: b,h=>by
  have h1:=XI ca y
  have h2:=Yw ca cb n [] b (by simp at h ⊢;omega)
  rw[entL,List.length_append];simp at h2 ⊢;omega
 |n+1,x :: a,y :: b,h=>by
  have h1:=XI cb x
  have h2:=XI ca y
  have h3:=Yw ca cb n a (y :: b) (by simp at h ⊢;omega)
  have h4:=Yw ca cb n (x :: a) b (by simp at h ⊢;omega)
  have h5:=Yw ca cb n a b (by simp at h ⊢;omega)
  rw[entL]
  split
  ·rw[List.length_append];simp at h3 ⊢;omega
  ·split
   ·rw[List.length_append];simp at h4 ⊢;omega
   ·simp at h5 ⊢;omega
theorem qVq (a b:Dt):decide (a.cmp b<0)=a.lt b:=by
 rw[←Bool.not_not (a.lt b),←qK0,Bool.eq_iff_iff]
 simp
theorem qQr (a b:List En)(ca cb:List Sp)(va vb vca vcb:Value)(w:World)(ha:SlP w w.heap.size 4 EnE va a)(hb:SlP w w.heap.size 4 EnE vb b)(hca:SlP w w.heap.size 3 SpE vca ca)(hcb:SlP w w.heap.size 3 SpE vcb cb)(hN:a.length+b.length<=900000)(hN1:ca.length<=900000)(hN2:cb.length<=900000) :
  Calls Tryz.prog 154 #[va,vb,vca,vcb] w (RetO w 80 4 (fun _=>EnE) (entL ca cb a b)):=by
 have HCA:Hid (∀ w',Below w.heap.size w w'->SlP w' w'.heap.size 3 SpE vca ca):=fun w' hb=>hca.imp hb hb.size fun _ _ _ h=>h
 have HCB:Hid (∀ w',Below w.heap.size w w'->SlP w' w'.heap.size 3 SpE vcb cb):=fun w' hb=>hcb.imp hb hb.size fun _ _ _ h=>h
 obtain⟨A1,m1,rfl,a1,a2,a3⟩:=ha
 obtain⟨A2,m2,rfl,b1,b2,b3⟩:=hb
 obtain⟨A3,m3,rfl,_,_,_⟩:=hca
 obtain⟨A4,m4,rfl,_,_,_⟩:=hcb
 unfold Big at a2 b2
 go_enter Tryz.func154,Tryz.ntmps154
 go_wp2_with fail
 go_loopw [9,10,11] (fun v i k wr=>∃ (out:List En) (p q:Nat),OwnP wr w.heap.size 80 4 EnE v out/\i=.int .i64 p/\k=.int .i64 q/\p<=a.length/\q<=b.length/\Hid (out++entL ca cb (a.drop p) (b.drop q)=entL ca cb a b)/\out.length<=p+q/\Below w.heap.size w wr) (fun _ i k _=>a.length-(intOf i).toNat+(b.length-(intOf k).toNat))
 case atStart=>exact⟨[],0,0,OwnP.nil,rfl,rfl,Nat.zero_le _,Nat.zero_le _,by unfold Hid;simp,by simp,Below.refl _ _⟩
 case round=>
  obtain⟨out,p,q,hown,rfl,rfl,hp,hq,hrel,hol,hBwr⟩:=hrel
  have hOwr:=hid hown
  clear hown
  by_cases hlp:p<a.length
  ·obtain⟨x,hx⟩:∃ x,a[p]?=some x:=⟨_,List.getElem?_eq_getElem hlp⟩
   obtain⟨ba,oa,rfl,hba,hca'⟩:=a3 (by rintro rfl;simp at hlp)
   obtain⟨cs,⟨rfl,hokx⟩,_,hu⟩:=hca' p _ hx
   have HXC:Hid (∀ w',Below w.heap.size w w'->w'.cell? ⟨ba,oa+p*4,none⟩=some (.int .i64 x.dc)/\w'.cell? ⟨ba,oa+p*4+1,none⟩=some (.int .i64 x.n)/\w'.cell? ⟨ba,oa+p*4+2,none⟩=some (.string x.s)/\w'.cell? ⟨ba,oa+p*4+3,none⟩=some (.int .i64 x.v)):=fun w' hb'=>
    ⟨(hb'.cell hba).trans (hu 0 _ rfl),(hb'.cell hba).trans (hu 1 _ rfl),(hb'.cell hba).trans (hu 2 _ rfl),(hb'.cell hba).trans (hu 3 _ rfl)⟩
   have HXE:Hid (EnE x [.int .i64 x.dc,.int .i64 x.n,.string x.s,.int .i64 x.v]):=⟨rfl,hokx⟩
   have HPX:=hid (QJ hx)
   have t1:decide ((p:Int)<(a.length:Int))=true:=by simp;omega
   have t2:((p:Int)==(a.length:Int))=false:=by simp;omega
   clear hu hca' hx a3 hokx
   by_cases hlq:q<b.length
   ·obtain⟨y,hy⟩:∃ y,b[q]?=some y:=⟨_,List.getElem?_eq_getElem hlq⟩
    obtain⟨bb,ob,rfl,hbb,hcb'⟩:=b3 (by rintro rfl;simp at hlq)
    obtain⟨cs,⟨rfl,hoky⟩,_,hu⟩:=hcb' q _ hy
    have HYC:Hid (∀ w',Below w.heap.size w w'->w'.cell? ⟨bb,ob+q*4,none⟩=some (.int .i64 y.dc)/\w'.cell? ⟨bb,ob+q*4+1,none⟩=some (.int .i64 y.n)/\w'.cell? ⟨bb,ob+q*4+2,none⟩=some (.string y.s)/\w'.cell? ⟨bb,ob+q*4+3,none⟩=some (.int .i64 y.v)):=fun w' hb'=>
     ⟨(hb'.cell hbb).trans (hu 0 _ rfl),(hb'.cell hbb).trans (hu 1 _ rfl),(hb'.cell hbb).trans (hu 2 _ rfl),(hb'.cell hbb).trans (hu 3 _ rfl)⟩
    have HYE:Hid (EnE y [.int .i64 y.dc,.int .i64 y.n,.string y.s,.int .i64 y.v]):=⟨rfl,hoky⟩
    have HPY:=hid (QJ hy)
    have t3:decide ((q:Int)<(b.length:Int))=true:=by simp;omega
    have t4:((q:Int)==(b.length:Int))=false:=by simp;omega
    clear hu hcb' hy b3 hoky
    obtain⟨x0,x1,_,_⟩:=HXC.out wr hBwr
    have fx0:=Qh (B:=wr.heap.size) x0 (by have:=hBwr.size;omega)
    have fx1:=Qh (B:=wr.heap.size) x1 (by have:=hBwr.size;omega)
    clear x0 x1
    obtain⟨y0,y1,_,_⟩:=HYC.out wr hBwr
    have fy0:=Qh (B:=wr.heap.size) y0 (by have:=hBwr.size;omega)
    have fy1:=Qh (B:=wr.heap.size) y1 (by have:=hBwr.size;omega)
    clear y0 y1
    have hE:entL ca cb (x :: a.drop (p+1)) (y :: b.drop (q+1))=if x.dot.lt y.dot then stayL cb x++entL ca cb (a.drop (p+1)) (y :: b.drop (q+1)) else if y.dot.lt x.dot then stayL ca y++entL ca cb (x :: a.drop (p+1)) (b.drop (q+1)) else grtE x y :: entL ca cb (a.drop (p+1)) (b.drop (q+1)):=by rw[entL]
    have c1:decide (Dt.cmp ⟨x.dc,x.n⟩ ⟨y.dc,y.n⟩<0)=x.dot.lt y.dot:=qVq _ _
    have c2:decide (Dt.cmp ⟨y.dc,y.n⟩ ⟨x.dc,x.n⟩<0)=y.dot.lt x.dot:=qVq _ _
    rcases hl1:x.dot.lt y.dot
    ·rw[hl1]at c1 hE
     rcases hl2:y.dot.lt x.dot
     ·rw[hl2]at c2 hE
      have HREL:Hid (out++(grtE x y :: entL ca cb (a.drop (p+1)) (b.drop (q+1)))=entL ca cb a b):=by
       have h1:=hrel.out;rw[HPX.out,HPY.out,hE]at h1;exact h1
      clear hE hl1 hl2 hrel
      go_upto_region 7 with (fail)
      refine Qc wr.heap.size (by kernel_rfl) (by kernel_rfl) ?_
      repeat (go_big_quiet_step ((go_at_call 176;exact Calls.far_of (Nat.le_refl _) (QS ⟨_,_⟩ ⟨_,_⟩ _))))
      refine wpQuiet_nil ?_
      intro wp hbwp
      have hBwp:Below w.heap.size w wp:=hBwr.trans (hbwp.mono (by have:=hBwr.size;omega))
      have hOwp:=hid (hOwr.out.grow hbwp)
      clear hbwp
      go_wp2_with fail
      clear fx0 fx1 fy0 fy1
      obtain⟨x0,x1,_,_⟩:=HXC.out wp hBwp
      have fx0:=Qh (B:=wp.heap.size) x0 (by have:=hBwp.size;omega)
      have fx1:=Qh (B:=wp.heap.size) x1 (by have:=hBwp.size;omega)
      clear x0 x1
      obtain⟨y0,y1,_,_⟩:=HYC.out wp hBwp
      have fy0:=Qh (B:=wp.heap.size) y0 (by have:=hBwp.size;omega)
      have fy1:=Qh (B:=wp.heap.size) y1 (by have:=hBwp.size;omega)
      clear y0 y1
      go_upto_region 11 with (fail)
      refine Qc wp.heap.size (by kernel_rfl) (by kernel_rfl) ?_
      repeat (go_big_quiet_step ((go_at_call 176;exact Calls.far_of (Nat.le_refl _) (QS ⟨_,_⟩ ⟨_,_⟩ _))))
      refine wpQuiet_nil ?_
      intro wq hbwq
      have hBwq:Below w.heap.size w wq:=hBwp.trans (hbwq.mono (by have:=hBwp.size;omega))
      have hOwq:=hid (hOwp.out.grow hbwq)
      clear hbwq
      go_wp2_with fail
      clear fx0 fx1 fy0 fy1
      obtain⟨z,hz⟩:∃ z,z=grtE x y:=⟨_,rfl⟩
      have HZQ:=hid hz
      have HZE:Hid (EnE z [.int .i64 z.dc,.int .i64 z.n,.string z.s,.int .i64 z.v]):=by
       rw[hz];unfold grtE;split
       ·exact HYE.out
       ·exact HXE.out
      have HXY:Hid (∀ w',Below w.heap.size w w'->w'.cell? ⟨ba,oa+p*4,none⟩=some (.int .i64 x.dc)/\w'.cell? ⟨ba,oa+p*4+1,none⟩=some (.int .i64 x.n)/\w'.cell? ⟨ba,oa+p*4+2,none⟩=some (.string x.s)/\w'.cell? ⟨ba,oa+p*4+3,none⟩=some (.int .i64 x.v)/\w'.cell? ⟨bb,ob+q*4,none⟩=some (.int .i64 y.dc)/\w'.cell? ⟨bb,ob+q*4+1,none⟩=some (.int .i64 y.n)/\w'.cell? ⟨bb,ob+q*4+2,none⟩=some (.string y.s)/\w'.cell? ⟨bb,ob+q*4+3,none⟩=some (.int .i64 y.v)):=fun w' hb'=>by
       obtain⟨x0,x1,x2,x3⟩:=HXC.out w' hb'
       obtain⟨y0,y1,y2,y3⟩:=HYC.out w' hb'
       exact⟨x0,x1,x2,x3,y0,y1,y2,y3⟩
      have HL:Hid (out.length + [z].length<=Few):=by unfold Hid Few;simp;omega
      have HRX:Hid (out++[z]++entL ca cb (a.drop (p+1)) (b.drop (q+1))=entL ca cb a b):=by
       unfold Hid;rw[←HREL.out,hz,List.append_assoc];rfl
      have hsq:=hBwq.size
      obtain⟨x0,x1,x2,x3⟩:=HXC.out wq hBwq
      obtain⟨y0,y1,y2,y3⟩:=HYC.out wq hBwq
      clear hz HREL
      go_upto_region 4 with (fail)
      go_region_held3 (fun w'=>w'.cell? ⟨ba,oa+p*4,none⟩=some (.int .i64 x.dc)/\w'.cell? ⟨ba,oa+p*4+1,none⟩=some (.int .i64 x.n)/\w'.cell? ⟨ba,oa+p*4+2,none⟩=some (.string x.s)/\w'.cell? ⟨ba,oa+p*4+3,none⟩=some (.int .i64 x.v)/\w'.cell? ⟨bb,ob+q*4,none⟩=some (.int .i64 y.dc)/\w'.cell? ⟨bb,ob+q*4+1,none⟩=some (.int .i64 y.n)/\w'.cell? ⟨bb,ob+q*4+2,none⟩=some (.string y.s)/\w'.cell? ⟨bb,ob+q*4+3,none⟩=some (.int .i64 y.v))
       (first|go_keep|exact HXY.out _ hB2|exact HXY.out _ hB1)
       (first
           |(go_at_call 177;go_loud ((refine (qZ1 x y _).mono ?_);rw[←HZQ.out];rintro e w1 ⟨rfl,hb⟩;have hb1:Below wq.heap.size wq w1:=(Below.trans (by go_grown) (hb.mono (by simp)));have hB1:Below w.heap.size w w1:=hBwq.trans (hb1.mono hsq);have hown1:=hOwq.out.grow hb1))
           |(go_loud (refine YR rfl (.tmp 22) (.tmp 32) _ rfl Xd (by decide) (by decide) (fun _ _ h=>h.one) rfl (hown1.alloc _) rfl (SlP.one (x:=z) HZE.out rfl _ rfl) HL.out (by rw[World.size_alloc];have:=hB1.size;omega) ?_);intro v2 w2 hown2 hb2 hg2;have hB2:Below w.heap.size w w2:=(hB1.alloc hB1.size _).trans hb2))
      all_goals
       go_wp2_with fail
       go_roundw
       case rel=>exact⟨out++[z],p+1,q+1,hown2,by go_num,by go_num,by omega,by omega,HRX.out,by simp;omega,hB2⟩
       case measure=>simp[intOf];omega
     ·rw[hl2]at c2 hE
      have HREL:Hid (out++(stayL ca y++entL ca cb (a.drop p) (b.drop (q+1)))=entL ca cb a b):=by
       have h1:=hrel.out;rw[HPX.out,HPY.out,hE]at h1;rw[HPX.out];exact h1
      clear hE hl1 hl2 hrel
      go_upto_region 7 with (fail)
      refine Qc wr.heap.size (by kernel_rfl) (by kernel_rfl) ?_
      repeat (go_big_quiet_step ((go_at_call 176;exact Calls.far_of (Nat.le_refl _) (QS ⟨_,_⟩ ⟨_,_⟩ _))))
      refine wpQuiet_nil ?_
      intro wp hbwp
      have hBwp:Below w.heap.size w wp:=hBwr.trans (hbwp.mono (by have:=hBwr.size;omega))
      have hOwp:=hid (hOwr.out.grow hbwp)
      clear hbwp
      go_wp2_with fail
      clear fx0 fx1 fy0 fy1
      obtain⟨x0,x1,_,_⟩:=HXC.out wp hBwp
      have fx0:=Qh (B:=wp.heap.size) x0 (by have:=hBwp.size;omega)
      have fx1:=Qh (B:=wp.heap.size) x1 (by have:=hBwp.size;omega)
      clear x0 x1
      obtain⟨y0,y1,_,_⟩:=HYC.out wp hBwp
      have fy0:=Qh (B:=wp.heap.size) y0 (by have:=hBwp.size;omega)
      have fy1:=Qh (B:=wp.heap.size) y1 (by have:=hBwp.size;omega)
      clear y0 y1
      go_upto_region 11 with (fail)
      refine Qc wp.heap.size (by kernel_rfl) (by kernel_rfl) ?_
      repeat (go_big_quiet_step ((go_at_call 176;exact Calls.far_of (Nat.le_refl _) (QS ⟨_,_⟩ ⟨_,_⟩ _))))
      refine wpQuiet_nil ?_
      intro wq hbwq
      have hBwq:Below w.heap.size w wq:=hBwp.trans (hbwq.mono (by have:=hBwp.size;omega))
      have hOwq:=hid (hOwp.out.grow hbwq)
      clear hbwq
      clear fx0 fx1 fy0 fy1
      obtain⟨y0,y1,y2,y3⟩:=HYC.out wq hBwq
      go_wp2_with fail
      refine (XG ca ⟨y.dc,y.n⟩ _ _ (HCA.out _ hBwq) hN1).mono ?_
      rintro e w1 ⟨rfl,hb1⟩
      have hBw1:Below w.heap.size w w1:=hBwq.trans (hb1.mono (by have:=hBwq.size;omega))
      have hown1:=hOwq.out.grow hb1
      clear y0 y1 y2 y3 hb1
      obtain⟨y0,y1,y2,y3⟩:=HYC.out w1 hBw1
      cases hh:cHas ca ⟨y.dc,y.n⟩
      ·have HRX:Hid (out++[y]++entL ca cb (a.drop p) (b.drop (q+1))=entL ca cb a b):=by
        have h1:=HREL.out;rw[show stayL ca y=[y] by (unfold stayL;rw[show cHas ca y.dot=false from hh];rfl)]at h1
        unfold Hid;rw[←h1,List.append_assoc]
       have HL:Hid (out.length + [y].length<=Few):=by unfold Hid Few;simp;omega
       clear hh
       go_wp2_with (at_builtin;go_loud ((with_reducible refine Ql rfl (.tmp 107) (.tmp 112) _ rfl Xd (by decide) (by decide) (fun _ _ h=>h.one) rfl (hown1.alloc _) rfl (SlP.one (x:=y) HYE.out rfl _ rfl) HL.out (by rw[World.size_alloc];have:=hBw1.size;omega) ?_);intro v1 w2 hown2 hb2 _))
       go_roundw
       case rel=>exact⟨out++[y],p,q+1,hown2,rfl,by go_num,hp,by omega,HRX.out,by simp;omega,(hBw1.alloc hBw1.size _).trans hb2⟩
       case measure=>simp[intOf];omega
      ·have HRX:Hid (out++entL ca cb (a.drop p) (b.drop (q+1))=entL ca cb a b):=by
        have h1:=HREL.out;rw[show stayL ca y=[] by (unfold stayL;rw[show cHas ca y.dot=true from hh];rfl),List.nil_append]at h1
        exact h1
       clear hh
       go_wp2_with fail
       go_roundw
       case rel=>exact⟨out,p,q+1,hown1,rfl,by go_num,hp,by omega,HRX.out,by omega,hBw1⟩
       case measure=>simp[intOf];omega
    ·rw[hl1]at c1 hE
     have HREL:Hid (out++(stayL cb x++entL ca cb (a.drop (p+1)) (b.drop q))=entL ca cb a b):=by
      have h1:=hrel.out;rw[HPX.out,HPY.out,hE]at h1;rw[HPY.out];exact h1
     clear hE hl1 hrel c2
     go_upto_region 7 with (fail)
     refine Qc wr.heap.size (by kernel_rfl) (by kernel_rfl) ?_
     repeat (go_big_quiet_step ((go_at_call 176;exact Calls.far_of (Nat.le_refl _) (QS ⟨_,_⟩ ⟨_,_⟩ _))))
     refine wpQuiet_nil ?_
     intro wp hbwp
     have hBwp:Below w.heap.size w wp:=hBwr.trans (hbwp.mono (by have:=hBwr.size;omega))
     have hOwp:=hid (hOwr.out.grow hbwp)
     clear hbwp
     clear fx0 fx1 fy0 fy1
     obtain⟨x0,x1,x2,x3⟩:=HXC.out wp hBwp
     go_wp2_with fail
     refine (XG cb ⟨x.dc,x.n⟩ _ _ (HCB.out _ hBwp) hN2).mono ?_
     rintro e w1 ⟨rfl,hb1⟩
     have hBw1:Below w.heap.size w w1:=hBwp.trans (hb1.mono (by have:=hBwp.size;omega))
     have hown1:=hOwp.out.grow hb1
     clear x0 x1 x2 x3 hb1
     obtain⟨x0,x1,x2,x3⟩:=HXC.out w1 hBw1
     cases hh:cHas cb ⟨x.dc,x.n⟩
     ·have HRX:Hid (out++[x]++entL ca cb (a.drop (p+1)) (b.drop q)=entL ca cb a b):=by
       have h1:=HREL.out;rw[show stayL cb x=[x] by (unfold stayL;rw[show cHas cb x.dot=false from hh];rfl)]at h1
       unfold Hid;rw[←h1,List.append_assoc]
      have HL:Hid (out.length + [x].length<=Few):=by unfold Hid Few;simp;omega
      clear hh
      go_wp2_with (at_builtin;go_loud ((with_reducible refine Ql rfl (.tmp 71) (.tmp 76) _ rfl Xd (by decide) (by decide) (fun _ _ h=>h.one) rfl (hown1.alloc _) rfl (SlP.one (x:=x) HXE.out rfl _ rfl) HL.out (by rw[World.size_alloc];have:=hBw1.size;omega) ?_);intro v1 w2 hown2 hb2 _))
      go_roundw
      case rel=>exact⟨out++[x],p+1,q,hown2,by go_num,rfl,by omega,hq,HRX.out,by simp;omega,(hBw1.alloc hBw1.size _).trans hb2⟩
      case measure=>simp[intOf];omega
     ·have HRX:Hid (out++entL ca cb (a.drop (p+1)) (b.drop q)=entL ca cb a b):=by
       have h1:=HREL.out;rw[show stayL cb x=[] by (unfold stayL;rw[show cHas cb x.dot=true from hh];rfl),List.nil_append]at h1
       exact h1
      clear hh
      go_wp2_with fail
      go_roundw
      case rel=>exact⟨out,p+1,q,hown1,by go_num,rfl,by omega,hq,HRX.out,by omega,hBw1⟩
      case measure=>simp[intOf];omega
   ·have hqe:q=b.length:=by omega
    have HREL:Hid (out++(stayL cb x++entL ca cb (a.drop (p+1)) (b.drop q))=entL ca cb a b):=by
     have h1:=hrel.out;rw[HPX.out,hqe,List.drop_of_length_le (Nat.le_refl _),entL]at h1;rw[hqe,List.drop_of_length_le (Nat.le_refl _)];exact h1
    have t3:decide ((q:Int)<(b.length:Int))=false:=by simp;omega
    have t4:((q:Int)==(b.length:Int))=true:=by simp;omega
    clear hrel hqe b3
    go_upto_region 7 with (fail)
    refine Qc wr.heap.size (by kernel_rfl) (by kernel_rfl) ?_
    repeat (go_big_quiet_step ((go_at_call 176;exact Calls.far_of (Nat.le_refl _) (QS ⟨_,_⟩ ⟨_,_⟩ _))))
    refine wpQuiet_nil ?_
    intro wp hbwp
    have hBwp:Below w.heap.size w wp:=hBwr.trans (hbwp.mono (by have:=hBwr.size;omega))
    have hOwp:=hid (hOwr.out.grow hbwp)
    clear hbwp
    obtain⟨x0,x1,x2,x3⟩:=HXC.out wp hBwp
    go_wp2_with fail
    refine (XG cb ⟨x.dc,x.n⟩ _ _ (HCB.out _ hBwp) hN2).mono ?_
    rintro e w1 ⟨rfl,hb1⟩
    have hBw1:Below w.heap.size w w1:=hBwp.trans (hb1.mono (by have:=hBwp.size;omega))
    have hown1:=hOwp.out.grow hb1
    clear x0 x1 x2 x3 hb1
    obtain⟨x0,x1,x2,x3⟩:=HXC.out w1 hBw1
    cases hh:cHas cb ⟨x.dc,x.n⟩
    ·have HRX:Hid (out++[x]++entL ca cb (a.drop (p+1)) (b.drop q)=entL ca cb a b):=by
      have h1:=HREL.out;rw[show stayL cb x=[x] by (unfold stayL;rw[show cHas cb x.dot=false from hh];rfl)]at h1
      unfold Hid;rw[←h1,List.append_assoc]
     have HL:Hid (out.length + [x].length<=Few):=by unfold Hid Few;simp;omega
     clear hh
     go_wp2_with (at_builtin;go_loud ((with_reducible refine Ql rfl (.tmp 71) (.tmp 76) _ rfl Xd (by decide) (by decide) (fun _ _ h=>h.one) rfl (hown1.alloc _) rfl (SlP.one (x:=x) HXE.out rfl _ rfl) HL.out (by rw[World.size_alloc];have:=hBw1.size;omega) ?_);intro v1 w2 hown2 hb2 _))
     go_roundw
     case rel=>exact⟨out++[x],p+1,q,hown2,by go_num,rfl,by omega,hq,HRX.out,by simp;omega,(hBw1.alloc hBw1.size _).trans hb2⟩
     case measure=>simp[intOf];omega
    ·have HRX:Hid (out++entL ca cb (a.drop (p+1)) (b.drop q)=entL ca cb a b):=by
      have h1:=HREL.out;rw[show stayL cb x=[] by (unfold stayL;rw[show cHas cb x.dot=true from hh];rfl),List.nil_append]at h1
      exact h1
     clear hh
     go_wp2_with fail
     go_roundw
     case rel=>exact⟨out,p+1,q,hown1,by go_num,rfl,by omega,hq,HRX.out,by omega,hBw1⟩
     case measure=>simp[intOf];omega
  ·have hpe:p=a.length:=by omega
   have t1:decide ((p:Int)<(a.length:Int))=false:=by simp;omega
   have t2:((p:Int)==(a.length:Int))=true:=by simp;omega
   by_cases hlq:q<b.length
   ·obtain⟨y,hy⟩:∃ y,b[q]?=some y:=⟨_,List.getElem?_eq_getElem hlq⟩
    obtain⟨bb,ob,rfl,hbb,hcb'⟩:=b3 (by rintro rfl;simp at hlq)
    obtain⟨cs,⟨rfl,hoky⟩,_,hu⟩:=hcb' q _ hy
    have HYC:Hid (∀ w',Below w.heap.size w w'->w'.cell? ⟨bb,ob+q*4,none⟩=some (.int .i64 y.dc)/\w'.cell? ⟨bb,ob+q*4+1,none⟩=some (.int .i64 y.n)/\w'.cell? ⟨bb,ob+q*4+2,none⟩=some (.string y.s)/\w'.cell? ⟨bb,ob+q*4+3,none⟩=some (.int .i64 y.v)):=fun w' hb'=>
     ⟨(hb'.cell hbb).trans (hu 0 _ rfl),(hb'.cell hbb).trans (hu 1 _ rfl),(hb'.cell hbb).trans (hu 2 _ rfl),(hb'.cell hbb).trans (hu 3 _ rfl)⟩
    have HYE:Hid (EnE y [.int .i64 y.dc,.int .i64 y.n,.string y.s,.int .i64 y.v]):=⟨rfl,hoky⟩
    have HPY:=hid (QJ hy)
    have t3:decide ((q:Int)<(b.length:Int))=true:=by simp;omega
    have t4:((q:Int)==(b.length:Int))=false:=by simp;omega
    have HREL:Hid (out++(stayL ca y++entL ca cb (a.drop p) (b.drop (q+1)))=entL ca cb a b):=by
     have h1:=hrel.out;rw[HPY.out,hpe,List.drop_of_length_le (Nat.le_refl _),entL]at h1;rw[hpe,List.drop_of_length_le (Nat.le_refl _)];exact h1
    clear hu hcb' hy b3 a3 hoky hrel hpe
    go_upto_region 7 with (fail)
    refine Qc wr.heap.size (by kernel_rfl) (by kernel_rfl) ?_
    repeat (go_big_quiet_step ((go_at_call 176;exact Calls.far_of (Nat.le_refl _) (QS ⟨_,_⟩ ⟨_,_⟩ _))))
    refine wpQuiet_nil ?_
    intro wp hbwp
    have hBwp:Below w.heap.size w wp:=hBwr.trans (hbwp.mono (by have:=hBwr.size;omega))
    have hOwp:=hid (hOwr.out.grow hbwp)
    clear hbwp
    go_wp2_with fail
    go_upto_region 11 with (fail)
    refine Qc wp.heap.size (by kernel_rfl) (by kernel_rfl) ?_
    repeat (go_big_quiet_step ((go_at_call 176;exact Calls.far_of (Nat.le_refl _) (QS ⟨_,_⟩ ⟨_,_⟩ _))))
    refine wpQuiet_nil ?_
    intro wq hbwq
    have hBwq:Below w.heap.size w wq:=hBwp.trans (hbwq.mono (by have:=hBwp.size;omega))
    have hOwq:=hid (hOwp.out.grow hbwq)
    clear hbwq
    obtain⟨y0,y1,y2,y3⟩:=HYC.out wq hBwq
    go_wp2_with fail
    refine (XG ca ⟨y.dc,y.n⟩ _ _ (HCA.out _ hBwq) hN1).mono ?_
    rintro e w1 ⟨rfl,hb1⟩
    have hBw1:Below w.heap.size w w1:=hBwq.trans (hb1.mono (by have:=hBwq.size;omega))
    have hown1:=hOwq.out.grow hb1
    clear y0 y1 y2 y3 hb1
    obtain⟨y0,y1,y2,y3⟩:=HYC.out w1 hBw1
    cases hh:cHas ca ⟨y.dc,y.n⟩
    ·have HRX:Hid (out++[y]++entL ca cb (a.drop p) (b.drop (q+1))=entL ca cb a b):=by
      have h1:=HREL.out;rw[show stayL ca y=[y] by (unfold stayL;rw[show cHas ca y.dot=false from hh];rfl)]at h1
      unfold Hid;rw[←h1,List.append_assoc]
     have HL:Hid (out.length + [y].length<=Few):=by unfold Hid Few;simp;omega
     clear hh
     go_wp2_with (at_builtin;go_loud ((with_reducible refine Ql rfl (.tmp 107) (.tmp 112) _ rfl Xd (by decide) (by decide) (fun _ _ h=>h.one) rfl (hown1.alloc _) rfl (SlP.one (x:=y) HYE.out rfl _ rfl) HL.out (by rw[World.size_alloc];have:=hBw1.size;omega) ?_);intro v1 w2 hown2 hb2 _))
     go_roundw
     case rel=>exact⟨out++[y],p,q+1,hown2,rfl,by go_num,hp,by omega,HRX.out,by simp;omega,(hBw1.alloc hBw1.size _).trans hb2⟩
     case measure=>simp[intOf];omega
    ·have HRX:Hid (out++entL ca cb (a.drop p) (b.drop (q+1))=entL ca cb a b):=by
      have h1:=HREL.out;rw[show stayL ca y=[] by (unfold stayL;rw[show cHas ca y.dot=true from hh];rfl),List.nil_append]at h1
      exact h1
     clear hh
     go_wp2_with fail
     go_roundw
     case rel=>exact⟨out,p,q+1,hown1,rfl,by go_num,hp,by omega,HRX.out,by omega,hBw1⟩
     case measure=>simp[intOf];omega
   ·have hqe:q=b.length:=by omega
    have t3:decide ((q:Int)<(b.length:Int))=false:=by simp;omega
    have HR:Hid (out=entL ca cb a b):=by
     have h1:=hrel.out;rw[hpe,hqe,List.drop_of_length_le (Nat.le_refl _),List.drop_of_length_le (Nat.le_refl _),entL,List.append_nil]at h1;exact h1
    clear hrel hpe hqe a3 b3
    go_wp2_with fail
    go_ret
    exact⟨_,rfl,by rw[←HR.out];exact hOwr.out,hBwr⟩
theorem Va (x s:ByteArray)(A A':Option Addr)(n c n' c':Nat)(w:World) :
  Calls Tryz.prog 180 #[.agg #[.string x,.slice A n c,.slice A' n' c'],.string s] w fun e w'=>e=.returned (.int .i64 (cmpS x s))/\Below w.heap.size w w':=by
 go_enter Tryz.func180,Tryz.ntmps180
 go_wp2_with fail
 refine (qQq x s _).mono ?_
 rintro e w1 ⟨rfl,rfl⟩
 go_wp2_with fail
 go_ret
 exact⟨rfl,by go_grown⟩
theorem XJ:∀ args W,(callFunc 180 args).run Tryz.prog W=.ok (.enter 180 args) W:=enters_of Tryz.func180 (by kernel_rfl) rfl
theorem zXq (ks:List Kd)(s:ByteArray)(v:Value)(w:World)(h:SlP w w.heap.size 3 (KdE w w.heap.size) v ks)(hS:ks.Pairwise fun a b=>ltS a.1 b.1=true) :
  Calls Tryz.prog 179 #[v,.string s,.func (.func 180) #[] #[]] w fun e w'=>
   ((∃ (i:Nat) (t:Tr),e=.returned (.tuple #[.int .i64 i,.bool true])/\ks[i]?=some (s,t))∨(∃ i:Int,e=.returned (.tuple #[.int .i64 i,.bool false])/\∀ t,(s,t)∉ks))/\Below w.heap.size w w':=by
 obtain⟨A,n,rfl,b1,b2,b3⟩:=h
 unfold Big at b2
 go_enter Tryz.func179,Tryz.ntmps179
 go_wp2_with fail
 go_loopw [9,10] (fun a b wr=>∃ lo hi:Nat,lo<=hi/\hi<=ks.length/\a=.int .i64 lo/\b=.int .i64 hi/\Hid (∀ (j:Nat) y,j<lo->ks[j]?=some y->ltS y.1 s=true)/\Hid (∀ (j:Nat) y,hi<=j->ks[j]?=some y->ltS y.1 s=false)/\Below w.heap.size w wr) (fun a b _=>(intOf b).toNat-(intOf a).toNat)
 case atStart=>exact⟨0,ks.length,Nat.zero_le _,Nat.le_refl _,rfl,rfl,fun j y hj=>absurd hj (Nat.not_lt_zero _),fun j y hj hy=>by have:=(List.getElem?_eq_some_iff.1 hy).1;omega,Below.refl _ _⟩
 case round=>
  obtain⟨lo,hi,hlh,hhn,rfl,rfl,HLO,HHI,hb⟩:=hrel
  have hsz:=hb.size
  by_cases hlt:lo<hi
  ·obtain⟨m,hm,hm1,hm2⟩:∃ m:Nat,((lo:Int)+(hi:Int)) / 2=(m:Int)/\lo<=m/\m<hi:=⟨(lo+hi) / 2,by omega,by omega,by omega⟩
   obtain⟨x,hx⟩:∃ x,ks[m]?=some x:=⟨_,List.getElem?_eq_getElem (by omega)⟩
   obtain⟨b,off,rfl,hbB,hc⟩:=b3 (by rintro rfl;simp at hhn;omega)
   obtain⟨cs,⟨ve,vk,rfl,hok,hrd⟩,_,hu⟩:=hc m _ hx
   obtain⟨A3,n3,A4,n4,rfl,rfl⟩:=Qk hrd
   have e0:wr.cell? ⟨b,off+m*3,none⟩=some (.string x.1):=(hb.cell hbB).trans (hu 0 _ rfl)
   have e1:wr.cell? ⟨b,off+m*3+1,none⟩=some (.slice A3 x.2.es.length n3):=(hb.cell hbB).trans (hu 1 _ rfl)
   have e2:wr.cell? ⟨b,off+m*3+2,none⟩=some (.slice A4 x.2.ks.length n4):=(hb.cell hbB).trans (hu 2 _ rfl)
   have hcall:=Va x.1 s A3 A4 x.2.es.length n3 x.2.ks.length n4 wr
   have eg:=XJ
   have HX:=hid hx
   have HLT:Hid (∀ (j:Nat) y,j<m->ks[j]?=some y->ltS y.1 x.1=true):=fun j y hj hy=>by
    obtain⟨h1,h2⟩:=List.getElem?_eq_some_iff.1 hy
    obtain⟨h3,h4⟩:=List.getElem?_eq_some_iff.1 hx
    rw[List.pairwise_iff_getElem]at hS
    have:=hS j m h1 h3 hj
    rw[h2,h4]at this;exact this
   have HGT:Hid (∀ (j:Nat) y,m<j->ks[j]?=some y->ltS x.1 y.1=true):=fun j y hj hy=>by
    obtain⟨h1,h2⟩:=List.getElem?_eq_some_iff.1 hy
    obtain⟨h3,h4⟩:=List.getElem?_eq_some_iff.1 hx
    rw[List.pairwise_iff_getElem]at hS
    have:=hS m j h3 h1 hj
    rw[h2,h4]at this;exact this
   clear hu hc b3 hx hrd hS
   rcases hq:ltS x.1 s
   ·have HQ:=hid hq
    have hcv:decide (cmpS x.1 s<0)=false:=by
     unfold cmpS;rw[hq];simp only[Bool.false_eq_true,if_false];split<;>decide
    clear hq
    have HN:Hid (∀ (j:Nat) y,m<=j->ks[j]?=some y->ltS y.1 s=false):=fun j y hj hy=>by
     by_cases hjm:j=m
     ·subst hjm;have h2:=HX.out;rw[hy]at h2;cases h2;exact HQ.out
     ·cases hys:ltS y.1 s
      ·rfl
      ·have h3:=QB (HGT.out j y (by omega) hy) hys
       rw[HQ.out]at h3;cases h3
    go_wp2_with (go_at_fn 180;refine hcall.mono ?_;rintro e w1 ⟨rfl,hb1⟩)
    go_roundw
    case rel=>exact⟨lo,m,hm1,by omega,rfl,by go_num,HLO.out,HN.out,hb.trans (hb1.mono hsz)⟩
    case measure=>simp[intOf];omega
   ·have HQ:=hid hq
    have hcv:decide (cmpS x.1 s<0)=true:=by unfold cmpS;rw[hq,if_pos rfl];decide
    clear hq
    have HN:Hid (∀ (j:Nat) y,j<m+1->ks[j]?=some y->ltS y.1 s=true):=fun j y hj hy=>by
     by_cases hjm:j=m
     ·subst hjm;have h2:=HX.out;rw[hy]at h2;cases h2;exact HQ.out
     ·exact QB (HLT.out j y (by omega) hy) HQ.out
    go_wp2_with (go_at_fn 180;refine hcall.mono ?_;rintro e w1 ⟨rfl,hb1⟩)
    go_roundw
    case rel=>exact⟨m+1,hi,by omega,hhn,by go_num,rfl,HN.out,HHI.out,hb.trans (hb1.mono hsz)⟩
    case measure=>simp[intOf];omega
  ·obtain rfl:lo=hi:=by omega
   by_cases hn:lo<ks.length
   ·obtain⟨x,hx⟩:∃ x,ks[lo]?=some x:=⟨_,List.getElem?_eq_getElem hn⟩
    obtain⟨b,off,rfl,hbB,hc⟩:=b3 (by rintro rfl;simp at hn)
    obtain⟨cs,⟨ve,vk,rfl,hok,hrd⟩,_,hu⟩:=hc lo _ hx
    obtain⟨A3,n3,A4,n4,rfl,rfl⟩:=Qk hrd
    have e0:wr.cell? ⟨b,off+lo*3,none⟩=some (.string x.1):=(hb.cell hbB).trans (hu 0 _ rfl)
    have e1:wr.cell? ⟨b,off+lo*3+1,none⟩=some (.slice A3 x.2.es.length n3):=(hb.cell hbB).trans (hu 1 _ rfl)
    have e2:wr.cell? ⟨b,off+lo*3+2,none⟩=some (.slice A4 x.2.ks.length n4):=(hb.cell hbB).trans (hu 2 _ rfl)
    have hcall:=Va x.1 s A3 A4 x.2.es.length n3 x.2.ks.length n4 wr
    have eg:=XJ
    have h0:=HHI.out lo x (Nat.le_refl _) hx
    have HX:=hid hx
    have HGT:Hid (∀ (j:Nat) y,lo<j->ks[j]?=some y->ltS x.1 y.1=true):=fun j y hj hy=>by
     obtain⟨h1,h2⟩:=List.getElem?_eq_some_iff.1 hy
     obtain⟨h3,h4⟩:=List.getElem?_eq_some_iff.1 hx
     rw[List.pairwise_iff_getElem]at hS
     have:=hS lo j h3 h1 hj
     rw[h2,h4]at this;exact this
    have H0:=hid h0
    clear hu hc b3 hx hrd hS
    rcases hq:ltS s x.1
    ·have HE:Hid (x.1=s):=ZQ h0 hq
     have hcv:(cmpS x.1 s==0)=true:=by unfold cmpS;rw[h0,hq];rfl
     clear h0 hq
     go_wp2_with (go_at_fn 180;refine hcall.mono ?_;rintro e w1 ⟨rfl,hb1⟩)
     go_ret2
     exact⟨.inl ⟨lo,x.2,rfl,by rw[HX.out,←HE.out]⟩,hb.trans (hb1.mono hsz)⟩
    ·have HQ:=hid hq
     have hcv:(cmpS x.1 s==0)=false:=by unfold cmpS;rw[h0,hq];rfl
     clear h0 hq
     go_wp2_with (go_at_fn 180;refine hcall.mono ?_;rintro e w1 ⟨rfl,hb1⟩)
     go_ret2
     refine⟨.inr ⟨lo,rfl,fun t ht=>?_⟩,hb.trans (hb1.mono hsz)⟩
     obtain⟨j,hj⟩:=List.getElem?_of_mem ht
     rcases Nat.lt_trichotomy j lo with h1|h1|h1
     ·have:=HLO.out j _ h1 hj;rw[Qw]at this;cases this
     ·subst h1;have h2:=HX.out;rw[hj]at h2;cases h2;have:=HQ.out;rw[Qw]at this;cases this
     ·have h2:=HGT.out j _ h1 hj;have h3:=H0.out;rw[h2]at h3;cases h3
   ·obtain rfl:lo=ks.length:=by omega
    clear b3 hS
    go_wp2_with fail
    go_ret2
    refine⟨.inr ⟨ks.length,rfl,fun t ht=>?_⟩,hb⟩
    obtain⟨j,hj⟩:=List.getElem?_of_mem ht
    have:=HLO.out j _ (List.getElem?_eq_some_iff.1 hj).1 hj;rw[Qw]at this;cases this
def RetS (w:World)(t:Tr)(e:Ending)(w':World):Prop:=
 ∃ ve vk,e=.returned (.agg #[ve,vk])/\t.rd w w.heap.size ve vk/\Below w.heap.size w w'
theorem qYh (t:Tr)(s:ByteArray)(ve vk:Value)(w:World)(h:t.rd w w.heap.size ve vk)(ho:t.Ord) :
  Calls Tryz.prog 156 #[.agg #[ve,vk],.string s] w (RetS w (kidT t s)):=by
 have HD:=hid h
 have hS:t.ks.Pairwise fun a b=>ltS a.1 b.1=true:=by obtain⟨es,ks⟩:=t;exact (QO.1 ho).2.1
 have HO:=hid ho
 obtain⟨A3,n3,A4,n4,rfl,rfl⟩:=Qk h
 have hb0:Below w.heap.size w ((w.alloc (.cells #[.slice A3 t.es.length n3,.slice A4 t.ks.length n4] 25)).alloc (.cells #[.slice none 0 0,.slice none 0 0] 25)):=((Below.refl _ w).alloc (Nat.le_refl _) _).alloc (by simp) _
 have hkl:t.ks.length<=140737488355328:=by
  have h1:=HD.out;obtain⟨es,ks⟩:=t;obtain⟨_,_,_,_,h2,_⟩:=(QE.1 h1).2;exact h2
 clear h
 go_enter Tryz.func156,Tryz.ntmps156
 go_wp2_with fail
 refine (zXq t.ks s _ _ (Xz (Qi hb0 hb0.size t _ _ HD.out)) hS).mono ?_
 rintro e w1 ⟨he,hb1⟩
 have hs1:=hb1.size
 simp only[World.size_alloc]at hs1
 have hB1:Below w.heap.size w w1:=hb0.trans (hb1.mono (by simp;omega))
 have g2:=(hb1.block w.heap.size (by simp;omega)).trans ((Qg (by simp)).trans (Qd (o:=.cells #[.slice A3 t.es.length n3,.slice A4 t.ks.length n4] 25) rfl))
 have g4:=(hb1.block (w.heap.size+1) (by simp)).trans (Qd (w:=w.alloc (.cells #[.slice A3 t.es.length n3,.slice A4 t.ks.length n4] 25)) (by simp))
 have HG4:=hid g4
 have c0:=Qa (i:=0) g2
 have c1:=Qa (i:=1) g2
 obtain⟨k0,k1,z0,z1⟩:=bz2 g4
 try simp only[List.getElem?_toArray,List.getElem?_cons_zero,List.getElem?_cons_succ]at c0 c1 k0 k1
 clear g2 g4 hS hb1
 rcases he with⟨i,u,rfl,hi⟩|⟨i,rfl,hn⟩
 ·have hil:i<t.ks.length:=(List.getElem?_eq_some_iff.1 hi).1
  have hKT:kidT t s=u:=YT HO.out (List.mem_of_getElem? hi)
  obtain⟨b',off',rfl,hbB',vAe,vne,vAk,vnk,HRV,q1,q2⟩:∃ b' off',A4=some ⟨b',off',none⟩/\b'<w.heap.size/\∃ vAe vne vAk vnk,Hid (u.rd w w.heap.size (.slice vAe u.es.length vne) (.slice vAk u.ks.length vnk))/\w1.cell? ⟨b',off'+i*3+1,none⟩=some (.slice vAe u.es.length vne)/\w1.cell? ⟨b',off'+i*3+2,none⟩=some (.slice vAk u.ks.length vnk):=by
   have h1:=HD.out
   obtain⟨es,ks⟩:=t
   obtain⟨Ak',ck',he,_,_,h3⟩:=(QE.1 h1).2
   cases he
   obtain⟨b',off',rfl,hbB',hc'⟩:=h3 (by rintro rfl;simp[Tr.ks]at hil)
   obtain⟨cs,⟨ve',vk',rfl,_,hrd'⟩,_,hu'⟩:=hc' i _ hi
   obtain⟨vAe,vne,vAk,vnk,rfl,rfl⟩:=Qk hrd'
   exact⟨b',off',rfl,hbB',vAe,vne,vAk,vnk,hrd',(hB1.cell (p:=⟨b',off'+i*3+1,none⟩) hbB').trans (hu' 1 _ rfl),(hB1.cell (p:=⟨b',off'+i*3+2,none⟩) hbB').trans (hu' 2 _ rfl)⟩
  have HKT:=hid hKT
  clear hi hKT
  go_wp2_with fail
  have hW0:=Qe (i:=1) (Qe (i:=0) HG4.out (.slice vAe u.es.length vne)) (.slice vAk u.ks.length vnk)
  have r0:=(Qa (i:=0) hW0).trans (show _=some (.slice vAe u.es.length vne) by simp)
  have r1:=(Qa (i:=1) hW0).trans (show _=some (.slice vAk u.ks.length vnk) by simp)
  refine bodyPost_ret (v:=.agg #[.slice vAe u.es.length vne,.slice vAk u.ks.length vnk]) (by simp[results,Tryz.results156,go_sem,r0,r1]) rfl ⟨_,_,rfl,(by rw[HKT.out];exact HRV.out),(hB1.setCell (by simp) _).setCell (by simp) _⟩
 ·have HKT:Hid (kidT t s=.mk [] []):=YF hn
  go_wp2_with fail
  have hW0:=Qe (i:=1) (Qe (i:=0) HG4.out (.slice none 0 0)) (.slice none 0 0)
  have r0:=(Qa (i:=0) hW0).trans (show _=some (.slice none 0 0) by simp)
  have r1:=(Qa (i:=1) hW0).trans (show _=some (.slice none 0 0) by simp)
  refine bodyPost_ret (v:=.agg #[.slice none 0 0,.slice none 0 0]) (by simp[results,Tryz.results156,go_sem,r0,r1]) rfl ⟨_,_,rfl,(by rw[HKT.out];exact qXu),(hB1.setCell (by simp) _).setCell (by simp) _⟩
def elP (x:Kd):Bool:=decide (0<x.2.es.length)
def elL (ks:List Kd):List ByteArray:=(ks.filter elP).map (·.1)
theorem zQ0 {ks:List Kd}{k:Nat}{x:Kd}(h:ks[k]?=some x):elL (ks.take (k+1))=elL (ks.take k)++(if elP x then [x.1] else []):=by
 unfold elL
 rw[List.take_add_one,h,List.filter_append,List.map_append]
 cases hp:elP x<;>simp[hp]
theorem qWm (ks:List Kd):(elL ks).length<=ks.length:=by unfold elL;rw[List.length_map];exact List.length_filter_le _ _
def Q0 (t:Tr):List ByteArray:=if t.right 5 then elL t.ks else []
theorem qKh (t:Tr)(w:World)(ve vk:Value)(h:t.rd w w.heap.size ve vk)(hN:t.ks.length<=900000) :
  Calls Tryz.prog 86 #[.agg #[ve,vk]] w (RetO w 9 1 (fun _=>StE) (Q0 t)):=by
 have HC:Hid (∀ w',Below w.heap.size w w'->t.rd w' w'.heap.size ve vk):=fun w' hb=>Qi hb hb.size _ _ _ h
 have HK0:Hid (Q0 t=if t.right 5 then elL t.ks else []):=rfl
 obtain⟨es,ks⟩:=t
 rw[QE]at h
 obtain⟨⟨A0,n0,rfl,d1,d2,d3⟩,⟨A,m,rfl,c1,c2,c3⟩⟩:=h
 unfold Big at c2 d2
 simp only[Tr.ks]at hN HK0 ⊢
 have hb0:Below w.heap.size w (w.alloc (.cells #[.slice A0 es.length n0,.slice A ks.length m] 25)):=(Below.refl _ w).alloc (Nat.le_refl _) _
 go_enter Tryz.func86,Tryz.ntmps86
 go_wp2_with fail
 refine (QG _ _ _ _ (HC.out _ hb0)).mono ?_
 rintro e w1 ⟨rfl,hb1⟩
 have hs1:=hb1.size
 simp only[World.size_alloc]at hs1
 have hB1:Below w.heap.size w w1:=hb0.trans (hb1.mono (by simp))
 have b1:w1.cell? ⟨w.heap.size,1,none⟩=some (.slice A ks.length m):=by rw[hb1.cell (p:=⟨w.heap.size,1,none⟩) (by simp)];simp
 cases hr:(Tr.mk es ks).right 5
 ·have HK:Hid (Q0 (.mk es ks)=[]):=by unfold Hid;rw[HK0.out,hr];rfl
  clear hr
  go_wp2_with fail
  go_ret
  exact⟨_,rfl,by rw[HK.out];exact OwnP.nil,hB1⟩
 have HK:Hid (Q0 (.mk es ks)=elL ks):=by unfold Hid;rw[HK0.out,hr];rfl
 clear hr d3 d2 d1
 go_wp2_with fail
 go_loopw [3,11] (fun v i wr=>∃ k:Nat,k<=ks.length/\i=.int .i64 k/\OwnP wr (w.heap.size+1) 9 1 StE v (elL (ks.take k))/\Below (w.heap.size+1) w1 wr) (fun _ i _=>ks.length-(intOf i).toNat)
 case atStart=>exact⟨0,Nat.zero_le _,rfl,OwnP.nil,Below.refl _ _⟩
 case round=>
  obtain⟨k,hk,rfl,hown,hb⟩:=hrel
  have hsz:=hb.size
  have hB0:Below w.heap.size w wr:=hB1.trans (hb.mono (by omega))
  by_cases hlt:k<ks.length
  ·obtain⟨⟨key,t⟩,hx⟩:∃ x,ks[k]?=some x:=⟨_,List.getElem?_eq_getElem hlt⟩
   obtain⟨b,off,rfl,hbB,hc⟩:=c3 (by rintro rfl;simp at hlt)
   obtain⟨cs,⟨ve',vk',rfl,hkb,hrd⟩,_,hu⟩:=hc k _ hx
   have hte:t.es.length<=140737488355328:=by have:=VV _ _ _ hrd;obtain⟨es',ks'⟩:=t;exact this.1
   obtain⟨A5,n5,A6,n6,rfl,rfl⟩:=Qk hrd
   have e0:wr.cell? ⟨b,off+k*3,none⟩=some (.string key):=(hB0.cell hbB).trans (hu 0 _ rfl)
   have e1:wr.cell? ⟨b,off+k*3+1,none⟩=some (.slice A5 t.es.length n5):=(hB0.cell hbB).trans (hu 1 _ rfl)
   have e2:wr.cell? ⟨b,off+k*3+2,none⟩=some (.slice A6 t.ks.length n6):=(hB0.cell hbB).trans (hu 2 _ rfl)
   have HT:Hid (elL (ks.take (k+1))=elL (ks.take k)++(if elP (key,t) then [key] else [])):=zQ0 hx
   have HKY:Hid (StE key [.string key]):=⟨rfl,hkb⟩
   have hfi:decide ((0:Int)<(t.es.length:Int))=decide (0<t.es.length):=by simp
   clear hu hc c3 hx hrd hb0 hb1 b1
   cases he:decide (0<t.es.length)
   ·have HX:Hid (elL (ks.take (k+1))=elL (ks.take k)):=by unfold Hid;rw[HT.out,show elP (key,t)=false from he];simp
    rw[he]at hfi
    go_wp2_with fail
    go_roundw
    case rel=>exact⟨k+1,by omega,by go_num,by rw[HX.out];exact hown.alloc _,hb.alloc (by omega) _⟩
    case measure=>simp[intOf];omega
   ·have HX:Hid (elL (ks.take (k+1))=elL (ks.take k)++[key]):=by unfold Hid;rw[HT.out,show elP (key,t)=true from he];rfl
    have HL:Hid ((elL (ks.take k)).length + [key].length<=Few):=by have:=qWm (ks.take k);unfold Hid Few;simp at this ⊢;omega
    rw[he]at hfi
    go_wp2_with (at_builtin;go_loud ((with_reducible refine Ql rfl (.tmp 20) (.tmp 23) _ rfl eiStr (by decide) (by decide) (fun _ _ h=>StE.one h) rfl ((hown.alloc _).alloc _) rfl (SlP.oneN (x:=key) HKY.out rfl _ rfl) HL.out (by simp only[World.size_alloc];omega) ?_);intro v1 w2 hown1 hb2 _;have hb3:=(((Below.refl (w.heap.size+1) wr).alloc (by omega) _).alloc (by simp only[World.size_alloc];omega) _).trans hb2))
    go_roundw
    case rel=>exact⟨k+1,by omega,by go_num,by rw[HX.out];exact hown1,hb.trans hb3⟩
    case measure=>simp[intOf];omega
  ·obtain rfl:k=ks.length:=by omega
   rw[List.take_of_length_le (Nat.le_refl _)]at hown
   go_wp2_with fail
   go_ret
   exact⟨_,rfl,by rw[HK.out];exact hown.mono (by omega),hB0⟩
theorem qXa (t:Tr):(Q0 t).length<=t.ks.length:=by
 unfold Q0
 split
 ·exact qWm _
 ·simp
theorem qKi (key x:ByteArray)(A A':Option Addr)(n c n' c':Nat)(B:Nat)(w:World)(hc:w.cell? ⟨B,0,none⟩=some (.string key))(hB:B<w.heap.size) :
  Calls Tryz.prog 146 #[.agg #[.string x,.slice A n c,.slice A' n' c'],.pointer (some ⟨B,0,none⟩)] w fun e w'=>e=.returned (.bool (decide (x=key)))/\Below w.heap.size w w':=by
 have hne:B≠w.heap.size:=by omega
 have HE:Hid ((x.toList==key.toList)=decide (x=key)):=by
  unfold Hid;rw[Bool.eq_iff_iff];simp[QN]
 go_enter Tryz.func146,Tryz.ntmps146
 go_wp2_with fail
 go_ret
 exact⟨Qf HE.out,by go_grown⟩
theorem zXz {key:ByteArray}{B:Nat}{w:World}(hc:w.cell? ⟨B,0,none⟩=some (.string key))(hB:B<w.heap.size):JU 146 #[.pointer (some ⟨B,0,none⟩)] (fun x=>decide (x=key)) w:=
 ⟨enters_of Tryz.func146 (by kernel_rfl) rfl,fun x A A' n c n' c' W _ hW=>qKi key x A A' n c n' c' B W ((hW.cell (p:=⟨B,0,none⟩) hB).trans hc) (by have:=hW.size;omega)⟩
end Go.Proofs.YtbcoelggdikipaaGreat
namespace Go.Proofs.YtbcoelggdikipaaGreat
open Go.RowKit Go.Sort
def toBy (s:ByteArray):List UInt8:=s.data.toList
def ofBy (l:List UInt8):ByteArray:=⟨l.toArray⟩
theorem qVs (s:ByteArray):ofBy (toBy s)=s:=rfl
theorem qQs (l:List UInt8):toBy (ofBy l)=l:=rfl
theorem qVt (ds:List (List UInt8)):(ds.map ofBy).map toBy=ds:=by
 rw[List.map_map]
 conv=>rhs;rw[←List.map_id ds]
 rfl
def srtL (ds:List ByteArray):List ByteArray:=((ds.map toBy).mergeSort fun x y=>decide (x<=y)).map ofBy
def cmpL (ds:List ByteArray):List ByteArray:=(Lib.compact (ds.map toBy)).map ofBy
theorem qYi {α:Type}(f:α->Value)(l:List α):(l.map fun x=>[f x]).flatten=l.map f:=by
 induction l with
 |nil=>rfl
 |cons x l ih=>simp[ih]
theorem qYj {w:World}{base:Nat}{e:TypeId}{v:Value}{ds:List ByteArray}(h:OwnP w base e 1 StE v ds):(v=.slice none 0 0/\ds=[]) ∨
  ∃ b cap cur,v=.slice (some ⟨b,0,none⟩) ds.length cap/\base<=b/\w.heap[b]?=some (.cells cur e (0,0))/\ds.length<=cap/\cap<=maxLen/\cur.size=cap*1/\cur.toList.take (ds.map toBy).length=(ds.map toBy).map encStr/\∀ x∈ds,x.size<=Big:=by
 obtain⟨css,h1,h2,h3⟩:=h
 rcases h3 with⟨rfl,hn⟩|⟨b,cap,cur,rfl,hb,hg,hnc,hm,hcs,ht⟩
 ·exact .inl ⟨rfl,List.eq_nil_of_length_eq_zero hn⟩
 ·refine .inr ⟨b,cap,cur,rfl,hb,hg,hnc,hm,hcs,?_,fun x hx=>?_⟩
  ·have hcss:css=ds.map fun x=>[Value.string x]:=by
    apply List.ext_getElem?
    intro j
    by_cases hj:j<ds.length
    ·obtain⟨cs,hcs,⟨hcv,_⟩,_⟩:=h1.2 j ds[j] (List.getElem?_eq_getElem hj)
     rw[hcs,List.getElem?_map,List.getElem?_eq_getElem hj,hcv];rfl
    ·rw[List.getElem?_eq_none (by rw[h1.1];omega),List.getElem?_eq_none (by simp;omega)]
   rw[Nat.mul_one,hcss,qYi]at ht
   rw[List.length_map,ht,List.map_map]
   rfl
  ·obtain⟨j,hj⟩:=List.getElem?_of_mem hx
   obtain⟨cs,_,⟨_,hr⟩,_⟩:=h1.2 j x hj
   exact hr
theorem zZ1 {w:World}{base:Nat}{e:TypeId}{v:Value}{ts:List (List UInt8)}(h:w.ownsRow base e 1 v ts.length (ts.map encStr))(hs:∀ x∈ts,(ofBy x).size<=Big):OwnP w base e 1 StE v (ts.map ofBy):=by
 refine⟨ts.map fun l=>[encStr l],⟨by simp,fun j x hx=>?_⟩,?_⟩
 ·rw[List.getElem?_map]at hx
  obtain⟨y,hy,rfl⟩:=Option.map_eq_some_iff.1 hx
  exact⟨[encStr y],by rw[List.getElem?_map,hy];rfl,⟨rfl,hs y (List.mem_of_getElem? hy)⟩,rfl⟩
 ·rw[qYi,List.length_map];exact h
theorem Xi (ds:List ByteArray)(v:Value)(w:World)(base:Nat)(h:OwnP w base 9 1 StE v ds)(hl:ds.length<=900000)(hbase:base<=w.heap.size) :
  Calls Tryz.prog 129 #[v] w fun e w'=>e=.returned (.tuple #[])/\OwnP w' base 9 1 StE v (srtL ds)/\Below base w w':=by
 rcases qYj h with⟨rfl,rfl⟩|⟨b,cap,cur,rfl,hb,hg,hnc,hm,hcs,ht,hz⟩
 ·refine (Any.slices_Sort_string_none Tryz.sortStr none 0 w).mono ?_
  rintro e w' ⟨rfl,rfl⟩
  exact⟨rfl,by simpa[srtL] using OwnP.nil,Below.refl _ _⟩
 ·have hlt:b<w.heap.size:=(Array.getElem?_eq_some_iff.1 hg).1
  have hH:Holds encStr w b 0 (ds.map toBy).toArray:=holds_of_block hg ht
  have hcon:=Any.slices_Sort_string Tryz.sortStr b 0 cap (ds.map toBy) w hH hlt (by rw[List.length_map];omega)
  rw[List.length_map]at hcon
  refine Calls.mono hcon ?_
  rintro e w' ⟨rfl,n,os,rfl⟩
  have hp:((ds.map toBy).mergeSort fun x y=>decide (x<=y)).Perm (ds.map toBy):=List.mergeSort_perm _ _
  have hrow:=ownsRow_sorted (n:=n) (os:=os) (ss:=ds.map toBy) (ts:=(ds.map toBy).mergeSort fun x y=>decide (x<=y)) hp.length_eq hb hg (by rw[List.length_map];exact hnc) hm hcs
  rw[←hp.length_eq]at hrow
  refine⟨rfl,?_,(Below.refl base w).grown (grownBy_sorted _) hbase (fun g hg=>by cases hg;exact hb)⟩
  have hlen:((ds.map toBy).mergeSort fun x y=>decide (x<=y)).length=ds.length:=by rw[hp.length_eq,List.length_map]
  have:=zZ1 hrow (fun x hx=>by
   obtain⟨y,hy,rfl⟩:=List.mem_map.1 (hp.subset hx)
   exact hz y hy)
  rw[hlen]at this
  exact this
theorem Yf (ds:List ByteArray)(v:Value)(w:World)(base:Nat)(h:OwnP w base 9 1 StE v ds)(hl:ds.length<=900000)(hbase:base<=w.heap.size) :
  Calls Tryz.prog 130 #[v] w fun e w'=>∃ v',e=.returned v'/\OwnP w' base 9 1 StE v' (cmpL ds)/\Below base w w':=by
 rcases qYj h with⟨rfl,rfl⟩|⟨b,cap,cur,rfl,hb,hg,hnc,hm,hcs,ht,hz⟩
 ·refine (Any.slices_Compact_string_empty Tryz.compactStr none 0 w).mono ?_
  rintro e w' ⟨rfl,rfl⟩
  exact⟨_,rfl,by simpa[cmpL,Lib.compact,Lib.compactUpTo] using OwnP.nil,Below.refl _ _⟩
 ·have hlt:b<w.heap.size:=(Array.getElem?_eq_some_iff.1 hg).1
  have hH:Holds encStr w b 0 (ds.map toBy).toArray:=holds_of_block hg ht
  have hcon:=Any.slices_Compact_string Tryz.compactStr b 0 cap (ds.map toBy) w hH (by rw[List.length_map];omega) (by rw[List.length_map];exact hnc)
  rw[List.length_map]at hcon
  refine Calls.mono hcon ?_
  rintro e w' ⟨rfl,n,rfl⟩
  have hcl:=Lib.compact_length_le (ds.map toBy)
  rw[List.length_map]at hcl
  have hm2:∀ x∈Lib.compact (ds.map toBy),x∈ds.map toBy:=fun x hx=>by
   unfold Lib.compact Lib.compactUpTo at hx
   obtain⟨j,hj,rfl⟩:=List.mem_map.1 hx
   have hj':j<(ds.map toBy).length:=List.mem_range.1 (List.mem_filter.1 hj).1
   rw[getElem!_pos _ j (by simpa using hj')]
   simpa using List.getElem_mem hj'
  have hcm:cmpL ds=(Lib.compact (ds.map toBy)).map ofBy:=rfl
  rw[hcm]
  generalize Lib.compact (ds.map toBy)=ts at hcl hm2 ⊢
  refine⟨_,rfl,?_,?_⟩
  ·have hF:(ts++List.replicate (ds.length-ts.length) []).length=ds.length:=by simp;omega
   have htk:=take_putCells cur (ts++List.replicate (ds.length-ts.length) []) (by rw[hF,hcs];omega)
   have hheap:(putRow encStr (Sort.ahead w n) b 0 (ts++List.replicate (ds.length-ts.length) []).toArray).heap[b]?=some (.cells (putCells encStr 0 (ts++List.replicate (ds.length-ts.length) []).toArray cur) 9 (0,0)):=by
    simp[putRow,mapBlock,Sort.ahead,Array.getElem?_modify,hg,onCells]
   refine zZ1 (v:=.slice (some ⟨b,0,none⟩) ts.length cap) ⟨by simp,.inr ⟨b,cap,_,rfl,hb,hheap,by omega,hm,by simp[putCells,hcs],?_⟩⟩ (fun x hx=>by
    obtain⟨y,hy,rfl⟩:=List.mem_map.1 (hm2 x hx)
    exact hz y hy)
   have:=congrArg (List.take ts.length) htk
   rw[List.take_take,hF,Nat.min_eq_left hcl,←List.map_take,List.take_left]at this
   rw[Nat.mul_one];exact this
  ·refine (Below.refl base w).grown (w':=putRow encStr (Sort.ahead w n) b 0 (ts++List.replicate (ds.length-ts.length) []).toArray) (row:=some b) ⟨rfl,rfl,rfl,by simp,fun k hk hne=>?_⟩ hbase (fun g hg=>by cases hg;exact hb)
   have:b≠k:=fun e=>hne (by rw[e])
   simp[putRow,mapBlock,Sort.ahead,Array.getElem?_modify,this]
end Go.Proofs.YtbcoelggdikipaaGreat
namespace Go.Proofs.YtbcoelggdikipaaGreat
open Go.RowKit
def txtL (t:Tr):List ByteArray:=t.es.map (·.s)
def Zj (t:Tr):List ByteArray:=cmpL (srtL (if t.right 5 then txtL t else []))
theorem JA (l:List ByteArray):(srtL l).length=l.length:=by unfold srtL;rw[List.length_map,(List.mergeSort_perm _ _).length_eq,List.length_map]
theorem qVv (t:Tr)(w:World)(ve vk:Value)(h:t.rd w w.heap.size ve vk)(hN:t.es.length<=900000) :
  Calls Tryz.prog 88 #[.agg #[ve,vk]] w (RetO w 9 1 (fun _=>StE) (Zj t)):=by
 have HC:Hid (∀ w',Below w.heap.size w w'->t.rd w' w'.heap.size ve vk):=fun w' hb=>Qi hb hb.size _ _ _ h
 have HK0:Hid (Zj t=cmpL (srtL (if t.right 5 then t.es.map (·.s) else []))):=rfl
 obtain⟨es,ks⟩:=t
 rw[QE]at h
 obtain⟨⟨A,m,rfl,c1,c2,c3⟩,⟨A0,n0,rfl,d1,d2,d3⟩⟩:=h
 unfold Big at c2 d2
 simp only[Tr.es]at hN HK0 ⊢
 have hb0:Below w.heap.size w (w.alloc (.cells #[.slice A es.length m,.slice A0 ks.length n0] 25)):=(Below.refl _ w).alloc (Nat.le_refl _) _
 go_enter Tryz.func88,Tryz.ntmps88
 go_wp2_with fail
 refine (QG _ _ _ _ (HC.out _ hb0)).mono ?_
 rintro e w1 ⟨rfl,hb1⟩
 have hs1:=hb1.size
 simp only[World.size_alloc]at hs1
 have hB1:Below w.heap.size w w1:=hb0.trans (hb1.mono (by simp))
 have b0:w1.cell? ⟨w.heap.size,0,none⟩=some (.slice A es.length m):=by rw[hb1.cell (p:=⟨w.heap.size,0,none⟩) (by simp)];simp
 cases hr:(Tr.mk es ks).right 5
 ·have HK1:Hid (Zj (.mk es ks)=cmpL (srtL [])):=by unfold Hid;rw[HK0.out,hr];rfl
  obtain⟨L,hL⟩:∃ L:List ByteArray,L=[]:=⟨_,rfl⟩
  have HK:Hid (Zj (.mk es ks)=cmpL (srtL L)):=by unfold Hid;rw[hL];exact HK1.out
  have hLl:L.length<=900000:=by rw[hL];simp
  obtain⟨wr,hwr⟩:∃ wr,wr=w1:=⟨_,rfl⟩
  subst hwr
  have hown:OwnP wr (w.heap.size+1) 9 1 StE (.slice none 0 0) L:=by rw[hL];exact OwnP.nil
  have hB0:=hB1
  clear hr hL
  go_wp2_with fail
  refine (Xi L _ wr (w.heap.size+1) hown hLl (by omega)).mono ?_
  rintro e w2 ⟨rfl,ho2,hb2⟩
  have hs2:=hb2.size
  have hll:=JA L
  go_wp2_with fail
  refine (Yf (srtL L) _ w2 (w.heap.size+1) ho2 (by omega) (by omega)).mono ?_
  rintro e w3 ⟨v3,rfl,ho3,hb3⟩
  go_wp2_with fail
  go_ret
  exact⟨_,rfl,by rw[HK.out];exact ho3.mono (by omega),hB0.trans ((hb2.trans hb3).mono (by omega))⟩
 have HK1:Hid (Zj (.mk es ks)=cmpL (srtL (es.map (·.s)))):=by unfold Hid;rw[HK0.out,hr];rfl
 clear hr d3 d2 d1
 go_wp2_with fail
 go_loopw [3,11] (fun v i wr=>∃ k:Nat,k<=es.length/\i=.int .i64 k/\OwnP wr (w.heap.size+1) 9 1 StE v ((es.take k).map (·.s))/\Below (w.heap.size+1) w1 wr) (fun _ i _=>es.length-(intOf i).toNat)
 case atStart=>exact⟨0,Nat.zero_le _,rfl,OwnP.nil,Below.refl _ _⟩
 case round=>
  obtain⟨k,hk,rfl,hown,hb⟩:=hrel
  have hsz:=hb.size
  have hB0:Below w.heap.size w wr:=hB1.trans (hb.mono (by omega))
  by_cases hlt:k<es.length
  ·obtain⟨x,hx⟩:∃ x,es[k]?=some x:=⟨_,List.getElem?_eq_getElem hlt⟩
   obtain⟨b,off,rfl,hbB,hc⟩:=c3 (by rintro rfl;simp at hlt)
   obtain⟨cs,⟨rfl,hok⟩,_,hu⟩:=hc k _ hx
   have e0:wr.cell? ⟨b,off+k*4,none⟩=some (.int .i64 x.dc):=(hB0.cell hbB).trans (hu 0 _ rfl)
   have e1:wr.cell? ⟨b,off+k*4+1,none⟩=some (.int .i64 x.n):=(hB0.cell hbB).trans (hu 1 _ rfl)
   have e2:wr.cell? ⟨b,off+k*4+2,none⟩=some (.string x.s):=(hB0.cell hbB).trans (hu 2 _ rfl)
   have e3:wr.cell? ⟨b,off+k*4+3,none⟩=some (.int .i64 x.v):=(hB0.cell hbB).trans (hu 3 _ rfl)
   have HX:Hid ((es.take (k+1)).map (·.s)=(es.take k).map (·.s)++[x.s]):=by unfold Hid;rw[List.take_add_one,hx];simp
   have HL:Hid (((es.take k).map (·.s)).length + [x.s].length<=Few):=by unfold Hid Few;simp;omega
   have HKY:Hid (StE x.s [.string x.s]):=⟨rfl,hok.s⟩
   clear hu hc c3 hx hb0 hb1 b0 hok
   go_wp2_with (at_builtin;go_loud ((with_reducible refine Ql rfl (.tmp 15) (.tmp 18) _ rfl eiStr (by decide) (by decide) (fun _ _ h=>StE.one h) rfl ((hown.alloc _).alloc _) rfl (SlP.oneN (x:=x.s) HKY.out rfl _ rfl) HL.out (by simp only[World.size_alloc];omega) ?_);intro v1 w2 hown1 hb2 _;have hb3:=(((Below.refl (w.heap.size+1) wr).alloc (by omega) _).alloc (by simp only[World.size_alloc];omega) _).trans hb2))
   go_roundw
   case rel=>exact⟨k+1,by omega,by go_num,by rw[HX.out];exact hown1,hb.trans hb3⟩
   case measure=>simp[intOf];omega
  ·obtain rfl:k=es.length:=by omega
   rw[List.take_of_length_le (Nat.le_refl _)]at hown
   have hLl:(es.map (·.s)).length<=900000:=by simp;omega
   have HK:=HK1
   clear HK1 HK0 c3
   generalize es.map (·.s)=L at *
   go_wp2_with fail
   refine (Xi L _ wr (w.heap.size+1) hown hLl (by omega)).mono ?_
   rintro e w2 ⟨rfl,ho2,hb2⟩
   have hs2:=hb2.size
   have hll:=JA L
   go_wp2_with fail
   refine (Yf (srtL L) _ w2 (w.heap.size+1) ho2 (by omega) (by omega)).mono ?_
   rintro e w3 ⟨v3,rfl,ho3,hb3⟩
   go_wp2_with fail
   go_ret
   exact⟨_,rfl,by rw[HK.out];exact ho3.mono (by omega),hB0.trans ((hb2.trans hb3).mono (by omega))⟩
def okT:Option ByteArray->ByteArray->Bool
 |none,_=>true
 |some q,x=>ltS q x
def pickC (last b:Option ByteArray)(x:ByteArray):Bool:=okT last x&&(match b with|none=>true|some c=>ltS x c)
def pickS (last b:Option ByteArray)(x:ByteArray):Option ByteArray:=if pickC last b x then some x else b
def sdGo (l:List ByteArray):Nat->List ByteArray->List ByteArray
 |0,out=>out
 |n+1,out=>match l.foldl (pickS out.getLast?) none with|none=>out|some b=>sdGo l n (out++[b])
def sdL (l:List ByteArray):List ByteArray:=sdGo l (l.length+1) []
def ahT (l:List ByteArray)(last:Option ByteArray):Nat:=(l.filter fun x=>okT last x).length
theorem qYk (l:List ByteArray)(last:Option ByteArray):∀ (b:Option ByteArray),(∀ e,b=some e->okT last e=true)->∀ e,l.foldl (pickS last) b=some e->(b=some e∨e∈l)/\okT last e=true:=by
 induction l with
 |nil=>intro b hb e he;exact⟨.inl he,hb e he⟩
 |cons x l ih=>
  intro b hb e he
  rw[List.foldl_cons]at he
  by_cases hc:pickC last b x=true
  ·have e1:pickS last b x=some x:=by simp[pickS,hc]
   rw[e1]at he
   simp only[pickC,Bool.and_eq_true]at hc
   obtain⟨h1,h2⟩:=ih (some x) (fun e he=>by cases he;exact hc.1) e he
   refine⟨.inr ?_,h2⟩
   rcases h1 with h1|h1
   ·cases h1;simp
   ·exact List.mem_cons_of_mem _ h1
  ·have e1:pickS last b x=b:=by simp[pickS,hc]
   rw[e1]at he
   obtain⟨h1,h2⟩:=ih b hb e he
   refine⟨?_,h2⟩
   rcases h1 with h1|h1
   ·exact .inl h1
   ·exact .inr (List.mem_cons_of_mem _ h1)
theorem qYl (l:List ByteArray)(last:Option ByteArray):∀ (b:Option ByteArray),(∀ c,b=some c->∃ e,l.foldl (pickS last) b=some e/\ltS c e=false)/\∀ x∈l,okT last x=true->∃ e,l.foldl (pickS last) b=some e/\ltS x e=false:=by
 induction l with
 |nil=>intro b;exact⟨fun c h=>⟨c,h,Qw _⟩,fun _ h=>by cases h⟩
 |cons y l ih=>
  intro b
  rw[List.foldl_cons]
  obtain⟨i1,i2⟩:=ih (pickS last b y)
  refine⟨fun c hc=>?_,fun x hx h2=>?_⟩
  ·subst hc
   by_cases hs:pickC last (some c) y=true
   ·obtain⟨e,he,hle⟩:=i1 y (by simp[pickS,hs])
    refine⟨e,he,?_⟩
    simp only[pickC,Bool.and_eq_true]at hs
    cases hce:ltS c e
    ·rfl
    ·rw[QB hs.2 hce]at hle;cases hle
   ·exact i1 c (by simp[pickS,hs])
  ·rcases List.mem_cons.1 hx with rfl|hx
   ·cases b with
    |none=>
     have hs:pickC last none x=true:=by simp[pickC,h2]
     exact i1 x (by simp[pickS,hs])
    |some c=>
     by_cases hs:pickC last (some c) x=true
     ·exact i1 x (by simp[pickS,hs])
     ·obtain⟨e,he,hle⟩:=i1 c (by simp[pickS,hs])
      refine⟨e,he,?_⟩
      have hxc:ltS x c=false:=by
       cases hxc:ltS x c
       ·rfl
       ·exact absurd (by simp[pickC,h2,hxc]) hs
      cases hxe:ltS x e
      ·rfl
      ·cases hec:ltS e c
       ·have:=ZQ hec hle;rw[this]at hxe;rw[hxe]at hxc;cases hxc
       ·rw[QB hxe hec]at hxc;cases hxc
   ·exact i2 x hx h2
theorem qVz {last:Option ByteArray}{a b:ByteArray}(h:okT last a=true)(k:ltS a b=true):okT last b=true:=by
 cases last with
 |none=>rfl
 |some q=>exact QB h k
theorem zY3 {l:List ByteArray}{last:Option ByteArray}{e:ByteArray}(h:l.foldl (pickS last) none=some e):ahT l (some e)<ahT l last:=by
 obtain⟨h1,h2⟩:=qYk l last none (fun _ h=>by cases h) e h
 rcases h1 with h1|h1
 ·cases h1
 ·exact Xq h1 (fun y hy=>qVz h2 hy) h2 (Qw _)
theorem zY4 (l:List ByteArray)(last:Option ByteArray):ahT l last<=l.length:=List.length_filter_le _ _
theorem qQt (l:List ByteArray):∀ (n:Nat) (out:List ByteArray),ahT l out.getLast? < n->(out.Pairwise fun a b=>ltS a b=true)->(∀ e∈out,e∈l)->(∀ x∈l,okT out.getLast? x=false->x∈out) ->
  ((sdGo l n out).Pairwise fun a b=>ltS a b=true)/\(∀ e∈sdGo l n out,e∈l)/\∀ x∈l,x∈sdGo l n out
 |0,_,h,_,_,_=>absurd h (Nat.not_lt_zero _)
 |n+1,out,h,h1,h2,h3=>by
  rw[sdGo]
  cases hb:l.foldl (pickS out.getLast?) none with
  |none=>
   refine⟨h1,h2,fun x hx=>?_⟩
   cases ho:okT out.getLast? x
   ·exact h3 x hx ho
   ·obtain⟨e,he,_⟩:=(qYl l out.getLast? none).2 x hx ho
    rw[hb]at he;cases he
  |some e=>
   obtain⟨hm,hok⟩:=qYk l out.getLast? none (fun _ h=>by cases h) e hb
   have hel:e∈l:=by
    rcases hm with hm|hm
    ·cases hm
    ·exact hm
   have hle:(out++[e]).getLast?=some e:=by simp
   refine qQt l n (out++[e]) ?_ ?_ ?_ ?_
   ·rw[hle];have:=zY3 hb;omega
   ·rw[List.pairwise_append]
    refine⟨h1,List.pairwise_singleton _ _,fun a ha b hb'=>?_⟩
    rw[List.mem_singleton]at hb';subst hb'
    rcases List.eq_nil_or_concat out with rfl|⟨out',z,rfl⟩
    ·cases ha
    ·rw[List.concat_eq_append]at *
     rw[List.getLast?_append]at hok
     have hz:ltS z b=true:=hok
     rcases List.mem_append.1 ha with ha|ha
     ·exact QB ((List.pairwise_append.1 h1).2.2 a ha z (by simp)) hz
     ·rw[List.mem_singleton]at ha;subst ha;exact hz
   ·intro a ha
    rcases List.mem_append.1 ha with ha|ha
    ·exact h2 a ha
    ·rw[List.mem_singleton]at ha;subst ha;exact hel
   ·intro x hx ho
    rw[hle]at ho
    have ho:ltS e x=false:=ho
    cases ho':okT out.getLast? x
    ·exact List.mem_append_left _ (h3 x hx ho')
    ·obtain⟨e',he',hmn⟩:=(qYl l out.getLast? none).2 x hx ho'
     rw[hb]at he';cases he'
     rw[ZQ ho hmn];simp
theorem Yx (l:List ByteArray):((sdL l).Pairwise fun a b=>ltS a b=true)/\∀ x,x∈sdL l↔x∈l:=by
 obtain⟨h1,h2,h3⟩:=qQt l (l.length+1) [] (by have:=zY4 l ([]:List ByteArray).getLast?;omega) .nil (fun _ h=>by cases h) (fun x _ h=>by simp[okT]at h)
 exact⟨h1,fun x=>⟨h2 x,h3 x⟩⟩
theorem zY5 (a b:ByteArray):ltS a b=decide (toBy a<toBy b):=by
 unfold ltS toBy
 rw[bytesLess_eq,ByteArray.toList_eq,ByteArray.toList_eq]
theorem J9 {zs:List (List UInt8)}(x:List UInt8):x∈Lib.compact zs↔x∈zs:=by
 unfold Lib.compact Lib.compactUpTo
 rw[List.mem_map]
 constructor
 ·rintro⟨j,hj,rfl⟩
  have hj':j<zs.length:=List.mem_range.1 (List.mem_filter.1 hj).1
  rw[getElem!_pos _ j (by simpa using hj')]
  simp
 ·intro hx
  obtain⟨i,hi,rfl⟩:=List.getElem_of_mem hx
  have key:∀ i (hi:i<zs.length),∃ j,j∈(List.range zs.length).filter (Lib.keeps zs.toArray)/\zs.toArray[j]! = zs[i]:=by
   intro i
   induction i using Nat.strongRecOn with
   |ind i ih=>
    intro hi
    have hg:zs.toArray[i]! = zs[i]:=by rw[getElem!_pos _ i (by simpa using hi)];simp
    by_cases hk:Lib.keeps zs.toArray i=true
    ·exact⟨i,List.mem_filter.2 ⟨List.mem_range.2 hi,hk⟩,hg⟩
    ·unfold Lib.keeps at hk
     simp only[decide_eq_true_eq,not_or,ne_eq,Decidable.not_not]at hk
     obtain⟨j,hj,he⟩:=ih (i-1) (by omega) (by omega)
     refine⟨j,hj,?_⟩
     rw[he,←hg,hk.2,getElem!_pos _ (i-1) (by simp;omega)];simp
  obtain⟨j,hj,he⟩:=key i hi
  exact⟨j,hj,he⟩
theorem KI {zs:List (List UInt8)}(h:zs.Pairwise fun a b=>a<=b):(Lib.compact zs).Pairwise fun a b=>a<b:=by
 unfold Lib.compact Lib.compactUpTo
 rw[List.pairwise_map,List.pairwise_filter]
 have hr:=List.pairwise_lt_range (n:=zs.length)
 refine hr.imp_of_mem fun {i j} hi hj hij _ hk=>?_
 have hi':=List.mem_range.1 hi
 have hj':=List.mem_range.1 hj
 rw[List.pairwise_iff_getElem]at h
 unfold Lib.keeps at hk
 simp only[decide_eq_true_eq,ne_eq]at hk
 have hne:zs.toArray[j]!≠zs.toArray[j-1]!:=by
  rcases hk with hk|hk
  ·omega
  ·exact hk
 rw[getElem!_pos _ j (by simpa using hj'),getElem!_pos _ (j-1) (by simp;omega)]at hne
 rw[getElem!_pos _ i (by simpa using hi'),getElem!_pos _ j (by simpa using hj')]
 simp only[List.getElem_toArray]at hne ⊢
 have h1:zs[j-1]'(by omega)<=zs[j]:=h (j-1) j (by omega) hj' (by omega)
 have h2:zs[i]<=zs[j-1]'(by omega):=by
  by_cases he:i=j-1
  ·subst he;exact List.le_refl _
  ·exact h i (j-1) hi' (by omega) (by omega)
 have h3:zs[j-1]'(by omega)<zs[j]:=by
  rcases Decidable.em (zs[j-1]'(by omega)<zs[j]) with h4|h4
  ·exact h4
  ·exact absurd (List.le_antisymm (List.not_lt.1 h4) h1) hne
 rcases Decidable.em (zs[i]<zs[j]) with h4|h4
 ·exact h4
 ·exact absurd h3 (List.not_lt.2 (List.le_trans (List.not_lt.1 h4) h2))
theorem sd_eq (l:List ByteArray):cmpL (srtL l)=sdL l:=by
 obtain⟨h1,h2⟩:=Yx l
 have hp:((l.map toBy).mergeSort fun x y=>decide (x<=y)).Perm (l.map toBy):=List.mergeSort_perm _ _
 have hs:((l.map toBy).mergeSort fun x y=>decide (x<=y)).Pairwise fun a b=>a<=b:=by
  have:=List.pairwise_mergeSort (le:=fun x y:List UInt8=>decide (x<=y)) (fun a b c h k=>by simp only[decide_eq_true_eq]at *;exact List.le_trans h k) (fun a b=>by
   simp only[Bool.or_eq_true,decide_eq_true_eq];exact List.le_total a b) (l.map toBy)
  exact this.imp fun h=>by simpa using h
 have hc:cmpL (srtL l)=(Lib.compact ((l.map toBy).mergeSort fun x y=>decide (x<=y))).map ofBy:=by
  unfold cmpL srtL;rw[qVt]
 rw[hc]
 refine Zq (r:=ltS) Qw (fun _ _ _=>QB) ?_ h1 fun x=>?_
 ·rw[List.pairwise_map]
  exact (KI hs).imp fun h=>by rw[zY5,qQs,qQs];simpa using h
 ·rw[h2,List.mem_map]
  constructor
  ·rintro⟨y,hy,rfl⟩
   obtain⟨z,hz,rfl⟩:=List.mem_map.1 (hp.subset ((J9 y).1 hy))
   exact hz
  ·intro hx
   exact⟨toBy x,(J9 _).2 (hp.symm.subset (List.mem_map.2 ⟨x,hx,rfl⟩)),rfl⟩
end Go.Proofs.YtbcoelggdikipaaGreat
namespace Go.Proofs
open Go.Shelf
def Tryz.sortRun_ren:Go.Shelf.Ren:=⟨fun|6=>183|15=>167|14=>209|28=>200|29=>201|20=>218|21=>219|22=>220|23=>221|24=>222|25=>223|26=>224|27=>225|46=>227|47=>212|48=>213|49=>228|50=>229|57=>230|n=>n,fun|22=>160|24=>167|25=>211|3=>3|39=>193|0=>0|53=>226|55=>228|4=>4|46=>219|45=>218|50=>204|5=>5|9=>9|66=>236|70=>240|76=>249|77=>250|n=>n,fun|n=>n⟩
theorem Tryz.sortRun:Go.Proofs.SlLaysF0.n6 Tryz.prog Tryz.sortRun_ren:={
 mixed:=by kernel_rfl
 f6:=⟨Tryz.f183.name,by decide,Tryz.func183.trans (congrArg some (by kernel_rfl))⟩
 f14:=⟨Tryz.f209.name,by decide,Tryz.func209.trans (congrArg some (by kernel_rfl))⟩
 f15:=Tryz.func167.trans (congrArg some (by kernel_rfl))
 f20:=⟨Tryz.f218.name,by decide,Tryz.func218.trans (congrArg some (by kernel_rfl))⟩
 f21:=⟨Tryz.f219.name,by decide,Tryz.func219.trans (congrArg some (by kernel_rfl))⟩
 f22:=⟨Tryz.f220.name,by decide,Tryz.func220.trans (congrArg some (by kernel_rfl))⟩
 f23:=⟨Tryz.f221.name,by decide,Tryz.func221.trans (congrArg some (by kernel_rfl))⟩
 f24:=⟨Tryz.f222.name,by decide,Tryz.func222.trans (congrArg some (by kernel_rfl))⟩
 f25:=⟨Tryz.f223.name,by decide,Tryz.func223.trans (congrArg some (by kernel_rfl))⟩
 f26:=⟨Tryz.f224.name,by decide,Tryz.func224.trans (congrArg some (by kernel_rfl))⟩
 f27:=⟨Tryz.f225.name,by decide,Tryz.func225.trans (congrArg some (by kernel_rfl))⟩
 f28:=Tryz.func200.trans (congrArg some (by kernel_rfl))
 f29:=Tryz.func201.trans (congrArg some (by kernel_rfl))
 f46:=⟨Tryz.f227.name,by decide,Tryz.func227.trans (congrArg some (by kernel_rfl))⟩
 f47:=Tryz.func212.trans (congrArg some (by kernel_rfl))
 f48:=Tryz.func213.trans (congrArg some (by kernel_rfl))
 f49:=⟨Tryz.f228.name,by decide,Tryz.func228.trans (congrArg some (by kernel_rfl))⟩
 f50:=⟨Tryz.f229.name,by decide,Tryz.func229.trans (congrArg some (by kernel_rfl))⟩
 f57:=⟨Tryz.f230.name,by decide,Tryz.func230.trans (congrArg some (by kernel_rfl))⟩
 t0:=Tryz.underlying0
 a0:=Tryz.isAgg0
 z0:=Tryz.sizeOf0
 v0:=Tryz.zeroValue0
 t3:=Tryz.underlying3
 a3:=Tryz.isAgg3
 z3:=Tryz.sizeOf3
 v3:=Tryz.zeroValue3
 t4:=Tryz.underlying4
 a4:=Tryz.isAgg4
 z4:=Tryz.sizeOf4
 v4:=Tryz.zeroValue4
 t5:=Tryz.underlying5
 a5:=Tryz.isAgg5
 z5:=Tryz.sizeOf5
 v5:=Tryz.zeroValue5
 t9:=Tryz.underlying9
 a9:=Tryz.isAgg9
 z9:=Tryz.sizeOf9
 v9:=Tryz.zeroValue9
 t22:=Tryz.underlying160
 a22:=Tryz.isAgg160
 z22:=Tryz.sizeOf160
 v22:=Tryz.zeroValue160
 t25:=Tryz.underlying211
 a25:=Tryz.isAgg211
 z25:=Tryz.sizeOf211
 v25:=Tryz.zeroValue211
 t39:=Tryz.underlying193
 a39:=Tryz.isAgg193
 z39:=Tryz.sizeOf193
 v39:=Tryz.zeroValue193
 t45:=Tryz.underlying218
 a45:=Tryz.isAgg218
 z45:=Tryz.sizeOf218
 v45:=Tryz.zeroValue218
 t46:=Tryz.underlying219
 a46:=Tryz.isAgg219
 z46:=Tryz.sizeOf219
 v46:=Tryz.zeroValue219
 t50:=Tryz.underlying204
 a50:=Tryz.isAgg204
 z50:=Tryz.sizeOf204
 v50:=Tryz.zeroValue204
 t53:=Tryz.underlying226
 a53:=Tryz.isAgg226
 z53:=Tryz.sizeOf226
 v53:=Tryz.zeroValue226
 t55:=Tryz.underlying228
 a55:=Tryz.isAgg228
 z55:=Tryz.sizeOf228
 v55:=Tryz.zeroValue228
 t66:=Tryz.underlying236
 a66:=Tryz.isAgg236
 z66:=Tryz.sizeOf236
 v66:=Tryz.zeroValue236
 t70:=Tryz.underlying240
 a70:=Tryz.isAgg240
 z70:=Tryz.sizeOf240
 v70:=Tryz.zeroValue240
 t76:=Tryz.underlying249
 a76:=Tryz.isAgg249
 z76:=Tryz.sizeOf249
 v76:=Tryz.zeroValue249
 t77:=Tryz.underlying250
 a77:=Tryz.isAgg250
 z77:=Tryz.sizeOf250
 v77:=Tryz.zeroValue250 }
end Go.Proofs
namespace Go.Proofs.YtbcoelggdikipaaGreat
open Go.RowKit Go.Sort
theorem qVi {w:World}{g n:Nat}{os:Array Obj}{cur:Array Value}{e:TypeId}{fr:Nat×Nat}(F:Array Value)(hb:w.heap[g]?=some (.cells cur e fr)) :
  (grow (putRow id (Sort.ahead w n) g 0 F) os).heap[g]?=some (.cells (putCells id 0 F cur) e fr):=by
 have hg:g<w.heap.size:=(Array.getElem?_eq_some_iff.1 hb).1
 rw[heap_grow_old _ _ (by simpa using hg)]
 simp[putRow,mapBlock,Sort.ahead,Array.getElem?_modify,hb,onCells]
theorem V5 {w:World}{g n:Nat}{os:Array Obj}(F:Array Value):w.grownBy (grow (putRow id (Sort.ahead w n) g 0 F) os) (some g):=by
 refine⟨rfl,rfl,rfl,by simp,fun k hk hne=>?_⟩
 rw[heap_grow_old _ _ (by simpa using hk)]
 have:g≠k:=fun e=>hne (by rw[e])
 simp[putRow,mapBlock,Sort.ahead,Array.getElem?_modify,this]
def encR {α:Type}(en:α->Int×Int)(x:α):List Value:=[.int .i64 (en x).1,.int .i64 (en x).2]
theorem JV {α:Type}[Inhabited α](en:α->Int×Int)(l:List α)(j:Nat)(hj:j<l.length*2):(l.map (encR en)).flatten[j]?=some ((encR en l[j / 2]!)[j % 2]!):=by
 have hm:j % 2<2:=Nat.mod_lt _ (by omega)
 have hd:j=j / 2*2+j % 2:=by omega
 have hf:=YB (sz:=2) (l.map (encR en)) (fun cs h=>by obtain⟨x,_,rfl⟩:=List.mem_map.1 h;rfl) (j / 2) (j % 2) hm
 rw[←hd]at hf
 have hlt:j / 2<l.length:=by omega
 rw[hf,List.getElem?_map,List.getElem?_eq_getElem hlt]
 simp only[Option.map_some,Option.bind_some]
 rw[getElem!_pos l (j / 2) hlt]
 rcases (show j % 2=0∨j % 2=1 by omega) with e|e<;>rw[e]<;>rfl
theorem JW {α:Type}[Inhabited α](en:α->Int×Int)(cf:α->α->Int)(hO:SWO (ltOf cf))(g:Nat)(eg:∀ args w,(callFunc g args).run Tryz.prog w=.ok (.enter g args) w)
  (hc:∀ (x y:α) (W:World),Calls Tryz.prog g #[.agg #[.int .i64 (en x).1,.int .i64 (en x).2],.agg #[.int .i64 (en y).1,.int .i64 (en y).2]] W fun e w'=>e=.returned (.int .i64 (cf x y))/\∃ q os',w'=grow (W.drewN q) os')
  (ds:List α) (v:Value) (w:World) (base:Nat) (h:OwnP w base 167 2 RuE v (ds.map en)) (hl:ds.length<=900000) (hbase:base<=w.heap.size) :
  Calls Tryz.prog 183 #[v,.func (.func g) #[] #[]] w fun e w'=>e=.returned (.tuple #[]) /\
   ∃ ts:List α,ts.Perm ds/\ts.Pairwise (fun a b=>0<=cf b a)/\OwnP w' base 167 2 RuE v (ts.map en)/\Below base w w':=by
 obtain⟨css,h1,h2,h3⟩:=h
 rcases h3 with⟨rfl,hn⟩|⟨b,cap,cur,rfl,hb,hg,hnc,hm,hcs,ht⟩
 ·obtain rfl:ds=[]:=by simpa using hn
  refine (AnyF.slices_SortFunc_none Tryz.sortRun none 0 (.func (.func g) #[] #[]) w).mono ?_
  rintro e w' ⟨rfl,rfl⟩
  exact⟨rfl,[],List.Perm.refl _,List.Pairwise.nil,OwnP.nil,Below.refl _ _⟩
 ·have hlt:b<w.heap.size:=(Array.getElem?_eq_some_iff.1 hg).1
  have hlen:(ds.map en).length=ds.length:=List.length_map ..
  rw[hlen]at h2 hnc ht ⊢
  have hcss:css=ds.map (encR en):=by
   apply List.ext_getElem?
   intro j
   by_cases hj:j<ds.length
   ·obtain⟨cs,hcs,⟨hcv,_⟩,_⟩:=h1.2 j (en ds[j]) (by rw[List.getElem?_map,List.getElem?_eq_getElem hj];rfl)
    rw[hcs,List.getElem?_map,List.getElem?_eq_getElem hj,hcv];rfl
   ·rw[List.getElem?_eq_none (by rw[h1.1,hlen];omega),List.getElem?_eq_none (by simp;omega)]
  have hok:∀ x∈ds,I64 (en x).1/\I64 (en x).2:=fun x hx=>by
   obtain⟨j,hj⟩:=List.getElem?_of_mem hx
   obtain⟨cs,_,⟨_,hr⟩,_⟩:=h1.2 j (en x) (by rw[List.getElem?_map,hj];rfl)
   exact hr
  have hH:HoldsK (encR en) 2 w b 0 ds.toArray:=by
   intro j hj
   have hj:j<ds.length*2:=by simpa using hj
   refine⟨?_,by simp[World.frozen?,hg]⟩
   rw[get_flatK _ _ _ _ (by simpa using hj),Nat.zero_add,show (w.cell? ⟨b,j,none⟩)=cur[j]? from by simp[World.cell?,hg]]
   have hf:=JV en ds j hj
   rw[←hcss,←ht,List.getElem?_take_of_lt hj,Array.getElem?_toList]at hf
   rw[hf];simp
  have hcon:=AnyQ.slices_SortFunc Tryz.sortRun 2 Tryz.isAgg167 Tryz.sizeOf167 (encR en) (fun _=>rfl) (fun x u hu=>by simp[encR]at hu;rcases hu with rfl|rfl<;>rfl) cf hO g #[] b 0 cap ds.toArray w eg
   (fun m os dk _ x y=>hc x y _) hH hlt (by simp;omega)
  have hcon':Calls Tryz.prog 183 #[.slice (some ⟨b,0,none⟩) ds.length cap,.func (.func g) #[] #[]] w _:=hcon
  refine hcon'.mono ?_
  rintro e w' ⟨rfl,d',n,os,hp,hs,rfl⟩
  have hsz:d'.size=ds.length:=by simpa using hp.1
  have hperm:d'.toList.Perm ds:=by
   have:=hp.2.2
   rw[show ds.toArray.extract 0 ds.toArray.size=ds.toArray by simp,show d'.extract 0 ds.toArray.size=d' by rw[show ds.toArray.size=d'.size by simp[hsz]];simp]at this
   simpa using this
  refine⟨rfl,d'.toList,hperm,?_,⟨d'.toList.map (encR en),⟨by simp,fun j x hx=>?_⟩,?_⟩,?_⟩
  ·rw[List.pairwise_iff_getElem]
   intro i j hi hj hij
   have hj':j<d'.size:=by simpa using hj
   have h4:=hs i j (Nat.zero_le _) hij (by simp;omega)
   rw[getElem!_pos d' i (by omega),getElem!_pos d' j hj']at h4
   simp only[ltOf,decide_eq_false_iff_not,Int.not_lt]at h4
   simpa using h4
  ·rw[List.getElem?_map]at hx
   obtain⟨y,hy,rfl⟩:=Option.map_eq_some_iff.1 hx
   refine⟨encR en y,by rw[List.getElem?_map,hy];rfl,⟨rfl,hok y (hperm.subset (List.mem_of_getElem? hy))⟩,rfl⟩
  ·have hlm:(d'.toList.map en).length=ds.length:=by simp[hsz]
   rw[hlm]
   refine⟨by rw[Xn (sz:=2) _ (fun cs h=>by obtain⟨x,_,rfl⟩:=List.mem_map.1 h;rfl)];simp[hsz],.inr ⟨b,cap,_,rfl,hb,qVi _ hg,hnc,hm,by simp[putCells,hcs],?_⟩⟩
   apply List.ext_getElem?
   intro j
   by_cases hj:j<ds.length*2
   ·have hjc:j<cur.size:=by rw[hcs];have:=Nat.mul_le_mul_right 2 hnc;omega
    rw[List.getElem?_take_of_lt hj,Array.getElem?_toList,JV en d'.toList j (by simp[hsz];omega)]
    simp only[putCells,Array.getElem?_mapIdx,Array.getElem?_eq_getElem hjc,Option.map_some]
    rw[if_pos ⟨Nat.zero_le _,by simp[hsz];omega⟩,Nat.sub_zero,id,get_flatK _ _ _ _ (by rw[hsz];exact hj)]
    simp only[Array.getElem!_toList]
   ·rw[List.getElem?_take_eq_none (by omega),List.getElem?_eq_none (by rw[Xn (sz:=2) _ (fun cs h=>by obtain⟨x,_,rfl⟩:=List.mem_map.1 h;rfl)];simp[hsz];omega)]
  ·exact (Below.refl base w).grown (V5 _) hbase (fun g hg=>by cases hg;exact hb)
theorem Jz (x y:Int):ltOf cmpI x y=decide (x<y):=by
 unfold ltOf cmpI
 by_cases h1:x<y
 ·simp[h1]
 ·by_cases h2:y<x<;>simp[h1,h2]
theorem swoI:SWO (ltOf cmpI) where
 irrefl x:=by rw[Jz];simp
 trans x y z h1 h2:=by rw[Jz]at *;simp at *;omega
 ntrans x y z h1 h2:=by rw[Jz]at *;simp at *;omega
theorem J2 (a b:Int):0<=cmpI b a↔a<=b:=by
 unfold cmpI;split<;>(try split)<;>omega
theorem qVl (x y:Int×Int)(W:World):Calls Tryz.prog 188 #[.agg #[.int .i64 x.1,.int .i64 x.2],.agg #[.int .i64 y.1,.int .i64 y.2]] W fun e w'=>e=.returned (.int .i64 (cmpI x.1 y.1))/\∃ q os',w'=grow (W.drewN q) os':=by
 go_enter Tryz.func188,Tryz.ntmps188
 go_wp2_with (go_at_call 185;refine (Xo _ _ _).mono ?_;rintro e w' ⟨rfl,rfl⟩)
 go_ret
 exact⟨rfl,0,_,by rw[alloc_eq_grow,alloc_eq_grow,grow_grow];rfl⟩
def dup (n:Int):Int×Int:=(n,n)
theorem zXi {ns ts:List Int}(hn:∀ x∈ns,numB x=true)(hp:ts.Perm ns)(hs:ts.Pairwise fun a b=>a<=b):joinL (ts.map dup)=ofL ns:=by
 have hn':∀ x∈ns,1<=x/\x<=1099511627776:=fun x hx=>by simpa[numB] using hn x hx
 obtain⟨a1,a2⟩:=ZU hn'
 obtain⟨b1,b2⟩:=JY (l:=ts.map dup) (fun r hr=>by
  obtain⟨x,hx,rfl⟩:=List.mem_map.1 hr
  have:=hn' x (hp.subset hx)
  exact⟨this.1,Int.le_refl _,this.2⟩) (List.pairwise_map.2 hs)
 refine YH _ _ none none b1 a1 fun n=>?_
 rw[b2,Bool.eq_iff_iff,a2]
 unfold hasL
 rw[List.any_eq_true]
 constructor
 ·rintro⟨r,hr,h⟩
  obtain⟨x,hx,rfl⟩:=List.mem_map.1 hr
  have h2:x<=n/\n<=x:=by
   have h3:(decide (x<=n)&&decide (n<=x))=true:=h
   simpa using h3
  obtain rfl:n=x:=by omega
  exact hp.subset hx
 ·intro h
  exact⟨dup n,List.mem_map.2 ⟨n,hp.symm.subset h,rfl⟩,by simp[dup,inR]⟩
theorem zXj (ns:List Int)(v:Value)(w:World)(h:SlP w w.heap.size 1 InE v ns)(hn:∀ x∈ns,numB x=true)(hN:ns.length<=400000) :
  Calls Tryz.prog 158 #[v] w fun e w'=>∃ v',e=.returned (.tuple #[v',.int .i64 0])/\OwnP w' w.heap.size 167 2 RuE v' (ofL ns)/\Below w.heap.size w w':=by
 obtain⟨A,c,rfl,b1,b2,b3⟩:=h
 unfold Big at b2
 go_enter Tryz.func158,Tryz.ntmps158
 go_wp2_with fail
 go_loopw [4,9] (fun v i wr=>∃ k:Nat,k<=ns.length/\i=.int .i64 k/\OwnP wr w.heap.size 167 2 RuE v ((ns.take k).map dup)/\Below w.heap.size w wr) (fun _ i _=>ns.length-(intOf i).toNat)
 case atStart=>exact⟨0,Nat.zero_le _,rfl,OwnP.nil,Below.refl _ _⟩
 case round=>
  obtain⟨k,hk,rfl,hown,hb⟩:=hrel
  have hsz:=hb.size
  by_cases hlt:k<ns.length
  ·obtain⟨x,hx⟩:∃ x,ns[k]?=some x:=⟨_,List.getElem?_eq_getElem hlt⟩
   obtain⟨b,off,rfl,hbB,hc⟩:=b3 (by rintro rfl;simp at hlt)
   obtain⟨cs,⟨rfl,hok⟩,_,hu⟩:=hc k _ hx
   have e0:wr.cell? ⟨b,off+k,none⟩=some (.int .i64 x):=(hb.cell hbB).trans (by simpa using hu 0 _ rfl)
   have HB:=hid (hn x (List.mem_of_getElem? hx))
   have HX:Hid ((ns.take (k+1)).map dup=(ns.take k).map dup++[dup x]):=by unfold Hid;rw[ZO hx,List.map_append];rfl
   have HRE:Hid (RuE (dup x) [.int .i64 x,.int .i64 x]):=⟨rfl,hok,hok⟩
   have HL:Hid (((ns.take k).map dup).length + [dup x].length<=Few):=by unfold Hid Few;simp;omega
   clear hu hx hc b3 hok
   go_wp2_with (first|(go_at_call 187;refine (Yr _ _).mono ?_;rw[HB.out];rintro e w' ⟨rfl,rfl⟩)|(at_builtin;with_reducible refine Ql rfl (.tmp 16) (.tmp 20) _ rfl eiRun (by decide) (by decide) (fun _ _ h=>h.one) rfl (hown.alloc _) rfl (SlP.one (x:=dup x) HRE.out rfl _ rfl) HL.out (by rw[World.size_alloc];omega) ?_;intro v1 w1 hown1 hb1 _))
   go_roundw
   case rel=>exact⟨k+1,by omega,by go_num,by rw[HX.out];exact hown1,hb.trans (((Below.refl _ _).alloc (by omega) _).trans hb1)⟩
   case measure=>simp[intOf];omega
  ·obtain rfl:k=ns.length:=by omega
   rw[List.take_of_length_le (Nat.le_refl _)]at hown
   have HC:Hid (∀ W base v,OwnP W base 167 2 RuE v (ns.map dup)->base<=W.heap.size->Calls Tryz.prog 183 #[v,.func (.func 188) #[] #[]] W fun e w'=>e=.returned (.tuple #[]) /\
    ∃ ts:List Int,ts.Perm ns/\ts.Pairwise (fun a b=>a<=b)/\OwnP w' base 167 2 RuE v (ts.map dup)/\Below base W w'):=fun W base v ho hbs=>
     (JW dup cmpI swoI 188 (enters_of Tryz.func188 (by kernel_rfl) rfl) (fun x y W=>qVl (dup x) (dup y) W) ns v W base ho (by omega) hbs).mono fun e w' ⟨he,ts,h1,h2,h3,h4⟩=>
      ⟨he,ts,h1,h2.imp fun h=>(J2 _ _).1 h,h3,h4⟩
   have HN:=hid hn
   clear hn b3
   go_wp2_with fail
   refine (HC.out _ _ _ hown hsz).mono ?_
   rintro e w1 ⟨rfl,ts,hp,hs,ho1,hb1⟩
   have HJ:=hid (zXi HN.out hp hs)
   have hs1:=hb1.size
   have hlen:ts.length=ns.length:=hp.length_eq
   have hsl:=ho1.sl (by rw[List.length_map,hlen];unfold Big;omega)
   have hro:Zi (ts.map dup):=fun r hr=>by
    obtain⟨x,hx,rfl⟩:=List.mem_map.1 hr
    have:=HN.out x (hp.subset hx)
    simp[numB]at this
    simp[dup];omega
   have HRO:=hid hro
   have HL1:Hid ((ts.map dup).length<=900000):=by unfold Hid;rw[List.length_map,hlen];omega
   clear hp hs hro hlen ho1 hown
   go_wp2_with fail
   refine (JZ (ts.map dup) _ w1 hsl HL1.out HRO.out).mono ?_
   rintro e w2 ⟨v2,rfl,ho2,hb2⟩
   rw[HJ.out]at ho2
   go_wp2_with fail
   go_ret2
   exact⟨_,rfl,ho2.mono (by omega),(hb.trans hb1).trans (hb2.mono (by omega))⟩
def cmpR (x y:Int×Int):Int:=cmpI x.1 y.1
theorem qZx (x y:Int×Int):ltOf cmpR x y=decide (x.1<y.1):=Jz x.1 y.1
theorem swoR:SWO (ltOf cmpR) where
 irrefl x:=by rw[qZx];simp
 trans x y z h1 h2:=by rw[qZx]at *;simp at *;omega
 ntrans x y z h1 h2:=by rw[qZx]at *;simp at *;omega
theorem qQa (x y:Int×Int)(W:World):Calls Tryz.prog 184 #[.agg #[.int .i64 x.1,.int .i64 x.2],.agg #[.int .i64 y.1,.int .i64 y.2]] W fun e w'=>e=.returned (.int .i64 (cmpR x y))/\∃ q os',w'=grow (W.drewN q) os':=by
 go_enter Tryz.func184,Tryz.ntmps184
 go_wp2_with (go_at_call 185;refine (Xo _ _ _).mono ?_;rintro e w' ⟨rfl,rfl⟩)
 go_ret
 exact⟨rfl,0,_,by rw[alloc_eq_grow,alloc_eq_grow,grow_grow];rfl⟩
theorem qVm {l:List (Int×Int)}(h:∀ r∈l,runOk r):Zi l:=fun r hr=>by
 have:=h r hr;unfold runOk at this;omega
theorem Ze:∀ (l:List (Int×Int)) (p:Option Int),runsR p l=true->∀ r∈l,runOk r
 |x :: l,p,h,r,hr=>by
  rw[Qq]at h
  rcases List.mem_cons.1 hr with rfl|hr
  ·exact h.1
  ·exact Ze l _ h.2.2 r hr
theorem KZ {a b ts:List (Int×Int)}(ha:runsR none a=true)(hb:runsR none b=true)(hp:ts.Perm (a++b))(hs:ts.Pairwise fun x y=>x.1<=y.1):joinL ts=byL a b 0:=by
 have oa:=Ze a none ha
 have ob:=Ze b none hb
 have ot:∀ r∈ts,runOk r:=fun r hr=>by
  rcases List.mem_append.1 (hp.subset hr) with h|h
  ·exact oa r h
  ·exact ob r h
 obtain⟨a1,a2⟩:=JY ot hs
 obtain⟨b1,b2⟩:=Yl 0 oa ob
 refine YH _ _ none none a1 b1 fun n=>?_
 rw[a2,b2]
 have:hasL ts n=hasL (a++b) n:=by
  unfold hasL
  rw[Bool.eq_iff_iff,List.any_eq_true,List.any_eq_true]
  exact⟨fun ⟨r,h1,h2⟩=>⟨r,hp.subset h1,h2⟩,fun ⟨r,h1,h2⟩=>⟨r,hp.symm.subset h1,h2⟩⟩
 rw[this,Z6]
 simp[inn]
theorem J3 (a b:List (Int×Int))(va vb:Value)(w:World)(ha:SlP w w.heap.size 2 RuE va a)(hb:SlP w w.heap.size 2 RuE vb b) :
  Calls Tryz.prog 135 #[va,vb] w fun e w'=>e=.returned (.bool (runsR none a&&runsR none b))/\Below w.heap.size w w':=by
 have HB:=hid hb
 go_enter Tryz.func135,Tryz.ntmps135
 go_wp2_with fail
 refine (Yk a va w ha).mono ?_
 rintro e w1 ⟨rfl,hb1⟩
 have hs1:=hb1.size
 cases hr:runsR none a
 ·have HR:=hid hr
  clear hr
  go_wp2_with fail
  go_ret
  exact⟨Qf (by rw[HR.out];rfl),hb1⟩
 ·have HR:=hid hr
  clear hr
  go_wp2_with fail
  refine (Yk b vb w1 (HB.out.imp hb1 hs1 fun _ _ _ h=>h)).mono ?_
  rintro e w2 ⟨rfl,hb2⟩
  go_wp2_with fail
  go_ret
  exact⟨Qf (by rw[HR.out];rfl),hb1.trans (hb2.mono hs1)⟩
theorem qJ0 (a b:List (Int×Int))(va vb:Value)(w:World)(ha:SlP w w.heap.size 2 RuE va a)(hb:SlP w w.heap.size 2 RuE vb b)(hra:runsR none a=true)(hrb:runsR none b=true)(hN:a.length<=300000)(hN':b.length<=300000) :
  Calls Tryz.prog 157 #[va,vb] w (RetO w 167 2 (fun _=>RuE) (byL a b 0)):=by
 have HA:=hid ha
 have HB:=hid hb
 have HRA:=hid hra
 have HRB:=hid hrb
 have hor:Zi (a++b):=qVm fun r hr=>by
  rcases List.mem_append.1 hr with h|h
  ·exact Ze a none hra r h
  ·exact Ze b none hrb r h
 have HOR:=hid hor
 obtain⟨A1,c1,rfl,_⟩:=ha
 obtain⟨A2,c2,rfl,_⟩:=hb
 clear hra hrb hor
 go_enter Tryz.func157,Tryz.ntmps157
 go_wp2_with fail
 refine (J3 a b _ _ w HA.out HB.out).mono ?_
 rw[HRA.out,HRB.out]
 rintro e w1 ⟨rfl,hb1⟩
 have hs1:=hb1.size
 go_wp2_with fail
 refine (qJw a b (.slice A1 a.length c1) (.slice A2 b.length c2) w1.heap.size _ (by simp) (by simp) (by simp) (HA.out.imp (hb1.alloc hs1 _) (by simp;omega) fun _ _ _ h=>h) (HB.out.imp (hb1.alloc hs1 _) (by simp;omega) fun _ _ _ h=>h) hN hN').mono ?_
 rintro e w2 ⟨v2,rfl,ho2,hb2⟩
 have hs2:=hb2.size
 simp only[World.size_alloc]at hs2
 have hB2:Below w.heap.size w w2:=(hb1.alloc hs1 _).trans (hb2.mono (by simp;omega))
 have ho2':OwnP w2 (w1.heap.size+1) 167 2 RuE v2 ((a++b).map id):=by rw[List.map_id];exact ho2.mono (by simp)
 go_wp2_with fail
 refine (JW id cmpR swoR 184 (enters_of Tryz.func184 (by kernel_rfl) rfl) (fun x y W=>qQa x y W) (a++b) v2 w2 _ ho2' (by simp;omega) hs2).mono ?_
 rintro e w3 ⟨rfl,ts,hp,hs,ho3,hb3⟩
 rw[List.map_id]at ho3
 have hs3:=hb3.size
 have hJ:=KZ HRA.out HRB.out hp (hs.imp fun h=>(J2 _ _).1 h)
 have HJ:=hid hJ
 have hlen:ts.length=a.length+b.length:=by rw[hp.length_eq,List.length_append]
 have hsl:=ho3.sl (by rw[hlen];unfold Big;omega)
 have HSL:=hid hsl
 have HTR:Hid (Zi ts):=fun r hr=>HOR.out r (hp.subset hr)
 have hl3:ts.length<=900000:=by omega
 clear hp hs ho3 hJ hsl ho2 ho2' hlen
 go_wp2_with fail
 refine (JZ ts _ w3 HSL.out hl3 HTR.out).mono ?_
 rintro e w4 ⟨v4,rfl,ho4,hb4⟩
 rw[HJ.out]at ho4
 go_wp2_with fail
 go_ret
 exact⟨_,rfl,ho4.mono (by omega),(hB2.trans (hb3.mono (by omega))).trans (hb4.mono (by omega))⟩
end Go.Proofs.YtbcoelggdikipaaGreat
namespace Go.Proofs.YtbcoelggdikipaaGreat
open Go.RowKit
def VH (g:Nat)(how:Int):Prop:=
 (∀ args W,(callFunc g args).run Tryz.prog W=.ok (.enter g args) W) /\
 ∀ (a b:List (Int×Int)) (va vb:Value) (W:World),SlP W W.heap.size 2 RuE va a->SlP W W.heap.size 2 RuE vb b->runsR none a=true->runsR none b=true->a.length<=100000->b.length<=100000 ->
  Calls Tryz.prog g #[va,vb] W (RetO W 167 2 (fun _=>RuE) (byL a b how))
def ByA (a b:List Sp)(how:Int)(vs us:Nat->Value)(w1 w2:World)(k:Nat)(wr:World):Prop:=
 ∃ ps:Nat->Value,wr.heap[w1.heap.size]?=some (.cells #[ps 0,ps 1,ps 2,ps 3] 162 (0,0))/\wr.heap[w2.heap.size]?=some (.cells #[us 0,us 1,us 2,us 3] 162 (0,0)) /\
  (∀ j,j<k->OwnP wr (w2.heap.size+1) 167 2 RuE (ps j) (byL (partL a (j:Int)) (partL b (j:Int)) how))/\(∀ j,k<=j->ps j=vs j)/\(∀ blk,w1.heap.size<blk->blk<w2.heap.size->wr.heap[blk]?=w2.heap[blk]?)/\Below w1.heap.size w1 wr
theorem qZy (a b:List Sp)(how:Int)(g:Nat)(hf:VH g how)(va vb:Value)(w:World)(ha:SlP w w.heap.size 3 SpE va a)(hb:SlP w w.heap.size 3 SpE vb b)(hra:Qm a=true)(hrb:Qm b=true)(hN:a.length<=20000)(hN':b.length<=20000) :
  Calls Tryz.prog 93 #[va,vb,.func (.func g) #[] #[]] w (RetO w 45 3 (fun _=>SpE) (ctxBy a b how)):=by
 obtain⟨eg,hf⟩:=hf
 have HA:=hid ha
 have HB:=hid hb
 obtain⟨A1,c1,rfl,_⟩:=ha
 obtain⟨A2,c2,rfl,_⟩:=hb
 go_enter Tryz.func93,Tryz.ntmps93
 go_wp2_with fail
 refine (XF a _ w HA.out (by omega)).mono ?_
 rintro e w1 ⟨vs,rfl,hsl,hb1⟩
 have hs1:=hb1.size
 rw[hra]
 simp only[hra,if_true]at hsl
 obtain⟨B0,m0,g0,_⟩:=hsl 0 (by omega)
 obtain⟨B1,m1,g1,_⟩:=hsl 1 (by omega)
 obtain⟨B2,m2,g2,_⟩:=hsl 2 (by omega)
 obtain⟨B3,m3,g3,_⟩:=hsl 3 (by omega)
 have HVS:=hid (fun i (hi:i<4)=>(hsl i hi).slp (fun b hb=>hb.2) (Below.refl _ w1))
 have G0:=hid g0
 have G1:=hid g1
 have G2:=hid g2
 have G3:=hid g3
 simp only[g0,g1,g2,g3]
 clear hsl g0 g1 g2 g3
 go_wp2_with fail
 refine (XF b _ _ (HB.out.imp (hb1.alloc hs1 _) (by simp;omega) fun _ _ _ h=>h) (by omega)).mono ?_
 rintro e w2 ⟨us,rfl,hsl,hb2⟩
 have hs2:=hb2.size
 simp only[World.size_alloc]at hs2
 rw[hrb]
 simp only[hrb,if_true]at hsl
 obtain⟨D0,n0,k0,_⟩:=hsl 0 (by omega)
 obtain⟨D1,n1,k1,_⟩:=hsl 1 (by omega)
 obtain⟨D2,n2,k2,_⟩:=hsl 2 (by omega)
 obtain⟨D3,n3,k3,_⟩:=hsl 3 (by omega)
 have HUS:=hid hsl
 have K0:=hid k0
 have K1:=hid k1
 have K2:=hid k2
 have K3:=hid k3
 simp only[k0,k1,k2,k3]
 clear hsl k0 k1 k2 k3
 have hp2:=hid ((hb2.block w1.heap.size (by simp)).trans (Qd rfl))
 have hB2:Below w1.heap.size w1 w2:=((Below.refl _ w1).alloc (Nat.le_refl _) _).trans (hb2.mono (by simp))
 go_wp2_with fail
 go_loopw [28] (fun i wr=>∃ k:Nat,k<=4/\i=.int .i64 k/\ByA a b how vs us w1 w2 k wr) (fun i _=>4-(intOf i).toNat)
 case atStart=>
  refine⟨0,by omega,rfl,vs,?_,?_,fun j hj=>absurd hj (Nat.not_lt_zero _),fun _ _=>rfl,fun blk _ hb=>Qg hb,hB2.alloc (by omega) _⟩
  ·rw[Qg (by omega),G0.out,G1.out,G2.out,G3.out];exact hp2.out
  ·rw[Qd rfl,K0.out,K1.out,K2.out,K3.out];rfl
 case round=>
  obtain⟨k,hk,rfl,ps,hpa,hqa,hpo,hpv,hkp,hbr⟩:=hrel
  have hsz:=hbr.size
  have hp3:w1.heap.size<wr.heap.size:=(Array.getElem?_eq_some_iff.1 hpa).1
  have hq3:w2.heap.size<wr.heap.size:=(Array.getElem?_eq_some_iff.1 hqa).1
  by_cases hk4:k<4
  ·have hki:(k:Int)<4:=by omega
   have hla:=QK a k
   have hlb:=QK b k
   have hq2:w2.heap.size+1<=wr.heap.size:=by omega
   have HSA:Hid (SlP wr.drew wr.drew.heap.size 2 RuE (vs k) (partL a k)):=(HVS.out k hk4).imp hbr.drew hsz fun _ _ _ h=>h
   have HSB:Hid (SlP wr.drew wr.drew.heap.size 2 RuE (us k) (partL b k)):=Zk.2 ((HUS.out k hk4).up (w':=wr.drew) (fun blk hb=>hkp blk (by have:=hb.1;simp only[World.size_alloc]at this;omega) hb.2) (fun blk hb=>by have:=hb.2;show blk<wr.heap.size;omega) (fun _ _ _ h=>h))
   have hcall:=hf (partL a k) (partL b k) (vs k) (us k) wr.drew HSA.out HSB.out (Qx hra hk4) (Qx hrb hk4) (by omega) (by omega)
   have hpc:wr.cell? ⟨w1.heap.size,k,none⟩=some (vs k):=by rw[Qa hpa,ZK ps hk4,hpv k (Nat.le_refl _)]
   have hqc:wr.cell? ⟨w2.heap.size,k,none⟩=some (us k):=(Qa hqa).trans (ZK us hk4)
   have HPA:=hid hpa
   have HQA:=hid hqa
   have HPO:=hid hpo
   have HPV:=hid hpv
   have HKP:=hid hkp
   have HCALL:=hid hcall
   clear hpa hqa hpo hpv hkp hf hcall
   go_wp2_with fail
   refine ZV (S:=fun w'=>w'.cell? ⟨w1.heap.size,k,none⟩=some (vs k)/\w'.cell? ⟨w2.heap.size,k,none⟩=some (us k)) 10 (by kernel_rfl) (by kernel_rfl) ?_
   simp only[List.take_succ_cons,List.take_zero,List.drop_succ_cons,List.drop_zero]
   have hHeld:(fun w':World=>w'.cell? ⟨w1.heap.size,k,none⟩=some (vs k)/\w'.cell? ⟨w2.heap.size,k,none⟩=some (us k)) wr.drew:=by go_keep
   refine wpAnyH_take (i:=0) (oi:=_) (v:=?v0) rfl (by kernel_rfl) (by kernel_rfl) (by kernel_rfl) (fun _ _ _ h=>h) (Or.inl ⟨by rfl,?h0⟩) (by assumption) ?_
   case h0=>(intro w hSw;(try dsimp only at hSw);go_simp;(try with_reducible rfl))
   simp only[Act.put,List.setIfInBounds_toArray]
   refine wpAnyH_take (i:=1) (oi:=_) (v:=?v1) rfl (by kernel_rfl) (by kernel_rfl) (by kernel_rfl) (fun _ _ _ h=>h) (Or.inl ⟨by rfl,?h1⟩) (by assumption) ?_
   case h1=>(intro w hSw;(try dsimp only at hSw);go_simp;(try with_reducible rfl))
   simp only[Act.put,List.setIfInBounds_toArray]
   refine wpAnyH_take (i:=2) (oi:=_) (v:=?v2) rfl (by kernel_rfl) (by kernel_rfl) (by kernel_rfl) (fun _ _ _ h=>h) (Or.inl ⟨by rfl,?h2⟩) (by assumption) ?_
   case h2=>(intro w hSw;(try dsimp only at hSw);go_simp;(try with_reducible rfl))
   simp only[Act.put,List.setIfInBounds_toArray]
   refine wpAnyH_take (i:=3) (oi:=_) (v:=?v3) rfl (by kernel_rfl) (by kernel_rfl) (by kernel_rfl) (fun _ _ _ h=>h) (Or.inl ⟨by rfl,?h3⟩) (by assumption) ?_
   case h3=>(intro w hSw;(try dsimp only at hSw);go_simp;(try with_reducible rfl))
   simp only[Act.put,List.setIfInBounds_toArray]
   refine wpAnyH_take (i:=4) (oi:=_) (v:=?v4) rfl (by kernel_rfl) (by kernel_rfl) (by kernel_rfl) (fun _ _ _ h=>h) (Or.inl ⟨by rfl,?h4⟩) (by assumption) ?_
   case h4=>(intro w hSw;(try dsimp only at hSw);go_simp;(try with_reducible rfl))
   simp only[Act.put,List.setIfInBounds_toArray]
   refine wpAnyH_take (i:=5) (oi:=_) (v:=?v5) rfl (by kernel_rfl) (by kernel_rfl) (by kernel_rfl) (fun _ _ _ h=>h) (Or.inl ⟨by rfl,?h5⟩) (by assumption) ?_
   case h5=>(intro w hSw;(try dsimp only at hSw);go_simp;(try with_reducible rfl))
   simp only[Act.put,List.setIfInBounds_toArray]
   refine wpAnyH_take (i:=6) (oi:=_) (v:=?v6) rfl (by kernel_rfl) (by kernel_rfl) (by kernel_rfl) (fun _ _ _ h=>h) (Or.inl ⟨by rfl,?h6⟩) (by assumption) ?_
   case h6=>(intro w hSw;(try dsimp only at hSw);go_simp;(try with_reducible rfl))
   simp only[Act.put,List.setIfInBounds_toArray]
   refine wpAnyH_take (i:=7) (oi:=_) (v:=?v7) rfl (by kernel_rfl) (by kernel_rfl) (by kernel_rfl) (fun _ _ _ h=>h) (Or.inl ⟨by rfl,?h7⟩) (by assumption) ?_
   case h7=>(intro w hSw;(try dsimp only at hSw);go_simp;(try with_reducible rfl))
   simp only[Act.put,List.setIfInBounds_toArray]
   refine wpAnyH_ready (rs:=[8]) (by kernel_rfl) (by simp) ?_
   refine AllReadyH.cons (o:=_) rfl (fun K hK=>?_) AllReadyH.nil
   go_simp
   refine HCALL.out.mono ?_
   rintro e w3 ⟨v3,rfl,ho3,hb3⟩
   obtain⟨A3,c3,rfl⟩:=ho3.shape
   have hb3':Below wr.heap.size wr w3:=(Below.refl _ wr).drew.trans hb3
   have hp4:=(hb3'.block w1.heap.size hp3).trans HPA.out
   have hq4:=(hb3'.block w2.heap.size hq3).trans HQA.out
   have hpc3:w3.cell? ⟨w1.heap.size,k,none⟩=some (vs k):=by rw[Qa hp4,ZK ps hk4,HPV.out k (Nat.le_refl _)]
   have hqc3:w3.cell? ⟨w2.heap.size,k,none⟩=some (us k):=(Qa hq4).trans (ZK us hk4)
   have hf3:w3.frozen? ⟨w1.heap.size,k,none⟩=false:=Qb hp4
   have HP4:=hid hp4
   have HQ4:=hid hq4
   have HO3:=hid ho3
   have HB3:=hid hb3'
   clear hp4 hq4 ho3 hb3 hb3'
   dsimp only
   refine hK.out _ _ ⟨hpc3,hqc3⟩ (fun hHeld8=>?_)
   clear hK K
   simp only[List.setIfInBounds_toArray]
   refine wpAnyH_take (i:=9) (oi:=_) (v:=?v9) rfl (by kernel_rfl) (by kernel_rfl) (by kernel_rfl) (fun _ _ _ h=>h) (Or.inl ⟨by rfl,?h9⟩) (by assumption) ?_
   case h9=>(intro w hSw;(try dsimp only at hSw);go_simp;(try with_reducible rfl))
   simp only[Act.put,List.setIfInBounds_toArray]
   refine wpAnyH_done (by kernel_rfl) ?_ _
   change wpList _ _ _ _ _ _
   go_wp2_with fail
   go_roundw
   case rel=>
    have hs3:=HB3.out.size
    refine⟨k+1,by omega,by go_num,fun j=>if j=k then .slice A3 (byL (partL a k) (partL b k) how).length c3 else ps j,?_,?_,fun j hj=>?_,fun j hj=>?_,fun blk h1 h2=>?_,(hbr.trans (HB3.out.mono hsz)).setCell (Nat.le_refl _) _⟩
    ·rw[Qe HP4.out,VE ps hk4]
    ·exact (Below.heap_setCell _ _ _ _ (by show w2.heap.size≠w1.heap.size;omega)).trans HQ4.out
    ·by_cases e:j=k
     ·subst e
      simp only[if_true]
      exact (HO3.out.mono (by show _<=wr.heap.size;omega)).setOther (by show w1.heap.size<_;omega) _
     ·simp only[if_neg e]
      exact ((HPO.out j (by omega)).grow HB3.out).setOther (by show w1.heap.size<_;omega) _
    ·show (if j=k then _ else ps j)=vs j
     rw[if_neg (show ¬j=k by omega)];exact HPV.out j (by omega)
    ·exact (Below.heap_setCell _ _ _ _ (by show blk≠w1.heap.size;omega)).trans ((HB3.out.block blk (by omega)).trans (HKP.out blk h1 h2))
   case measure=>simp[intOf];omega
  ·obtain rfl:k=4:=by omega
   have d0:wr.cell? ⟨w1.heap.size,0,none⟩=some (ps 0):=Qa (i:=0) hpa
   have d1:wr.cell? ⟨w1.heap.size,1,none⟩=some (ps 1):=Qa (i:=1) hpa
   have d2:wr.cell? ⟨w1.heap.size,2,none⟩=some (ps 2):=Qa (i:=2) hpa
   have d3:wr.cell? ⟨w1.heap.size,3,none⟩=some (ps 3):=Qa (i:=3) hpa
   have HOL:∀ j:Nat,(byL (partL a (j:Int)) (partL b (j:Int)) how).length<=80001:=fun j=>by
    have:=JJ (partL a (j:Int)) (partL b (j:Int)) how;have:=QK a (j:Int);have:=QK b (j:Int);omega
   have HSP:Hid (∀ j,j<4->SlP wr wr.heap.size 2 RuE (ps j) (byL (partL a (j:Int)) (partL b (j:Int)) how)):=fun j hj=>(hpo j hj).sl (by have:=HOL j;unfold Big;omega)
   have HOLH:=hid HOL
   clear hpa hqa hpo hpv hkp HOL
   go_wp2_with fail
   refine (qQc (fun j=>byL (partL a (j:Int)) (partL b (j:Int)) how) ps wr HSP.out (fun j _=>by have:=HOLH.out j;show (byL _ _ _).length<=_;omega)).mono ?_
   rintro e w4 ⟨v4,rfl,ho4,hb4⟩
   go_wp2_with fail
   go_ret
   exact⟨_,rfl,ho4.mono (by omega),(hb1.trans (hbr.mono hs1)).trans (hb4.mono (by omega))⟩
theorem qJ1:VH 157 0:=
 ⟨enters_of Tryz.func157 (by kernel_rfl) rfl,fun a b va vb W ha hb hra hrb hN hN'=>qJ0 a b va vb W ha hb hra hrb (by omega) (by omega)⟩
theorem YY (a b:List Sp)(va vb:Value)(w:World)(ha:SlP w w.heap.size 3 SpE va a)(hb:SlP w w.heap.size 3 SpE vb b)(hra:Qm a=true)(hrb:Qm b=true)(hN:a.length<=20000)(hN':b.length<=20000) :
  Calls Tryz.prog 112 #[va,vb] w (RetO w 45 3 (fun _=>SpE) (ctxBy a b 0)):=by
 go_enter Tryz.func112,Tryz.ntmps112
 go_wp2_with fail
 refine (qZy a b 0 _ qJ1 va vb w ha hb hra hrb hN hN').mono ?_
 rintro e w1 ⟨v,rfl,h⟩
 go_wp2_with fail
 go_ret
 exact⟨v,rfl,h⟩
end Go.Proofs.YtbcoelggdikipaaGreat
