/- What the laws need. No condition but those that each lemma states. -/
import Derived.Lib.RowBridge
import Derived.Shelf.SlSortCmp.NoneTotal
import Derived.Shelf.Slices.CompactS
import Derived.Shelf.Slices.In.SortNone
import Derived.Shelf.Sort.Plain
import Derived.Sort.OwnSorted
import Derived.Test.YtbcoelggdikipaaGreatProg
import Derived.Test.YtbcoelggdikipaaGreatUw3
import Derived.Test.YtbcoelggdikipaaGreatUw5
import Derived.Test.YtbcoelggdikipaaGreatUw1
import Derived.Test.YtbcoelggdikipaaGreatUw4
import Derived.Test.YtbcoelggdikipaaGreatUw2
set_option maxRecDepth 100000
set_option maxHeartbeats 8000000
set_option linter.unusedSimpArgs false
namespace Go.Proofs.YtbcoelggdikipaaGreat
open Go.RowKit
def stayL (c:List Sp)(x:En):List En:=if cHas c x.dot then [] else [x]
def entL (ca cb:List Sp):List En->List En->List En
 |[],[]=>[]
 |x :: a,[]=>stayL cb x++entL ca cb a []
 |[],y :: b=>stayL ca y++entL ca cb [] b
 |x :: a,y :: b=>if x.dot.lt y.dot then stayL cb x++entL ca cb a (y :: b) else if y.dot.lt x.dot then stayL ca y++entL ca cb (x :: a) b else grtE x y :: entL ca cb a b
termination_by a b=>a.length+b.length
theorem XA (c:List Sp)(x:En):(stayL c x).length<=1:=by unfold stayL;split<;>simp
theorem Yt (ca cb:List Sp):∀ (n:Nat) (a b:List En),a.length+b.length<=n->(entL ca cb a b).length<=a.length+b.length
 |n,[],[],_=>by rw[entL];simp
 |0,x :: a,_,h=>by simp at h
 |0,[],y :: b,h=>by simp at h
 |n+1,x :: a,[],h=>by
  have h1:=XA cb x
  have h2:=Yt ca cb n a [] (by simp at h ⊢;omega)
  rw[entL,List.length_append];simp at h2 ⊢;omega
 |n+1,[],y :: b,h=>by
  have h1:=XA ca y
  have h2:=Yt ca cb n [] b (by simp at h ⊢;omega)
  rw[entL,List.length_append];simp at h2 ⊢;omega
 |n+1,x :: a,y :: b,h=>by
  have h1:=XA cb x
  have h2:=XA ca y
  have h3:=Yt ca cb n a (y :: b) (by simp at h ⊢;omega)
  have h4:=Yt ca cb n (x :: a) b (by simp at h ⊢;omega)
  have h5:=Yt ca cb n a b (by simp at h ⊢;omega)
  rw[entL]
  split
  ·rw[List.length_append];simp at h3 ⊢;omega
  ·split
   ·rw[List.length_append];simp at h4 ⊢;omega
   ·simp at h5 ⊢;omega
theorem qVn (a b:Dt):decide (a.cmp b<0)=a.lt b:=by
 rw[←Bool.not_not (a.lt b),←qKu,Bool.eq_iff_iff]
 simp
theorem qQh (a b:List En)(ca cb:List Sp)(va vb vca vcb:Value)(w:World)(ha:SlP w w.heap.size 4 EnE va a)(hb:SlP w w.heap.size 4 EnE vb b)(hca:SlP w w.heap.size 3 SpE vca ca)(hcb:SlP w w.heap.size 3 SpE vcb cb)(hN:a.length+b.length<=900000)(hN1:ca.length<=900000)(hN2:cb.length<=900000) :
  Calls Tryz.prog 154 #[va,vb,vca,vcb] w (RetO w 80 4 (fun _=>EnE) (entL ca cb a b)):=by
 have HCA:Hid (∀ w',Below w.heap.size w w'->SlP w' w'.heap.size 3 SpE vca ca):=fun w' hb=>hca.imp hb hb.size fun _ _ _ h=>h
 have HCB:Hid (∀ w',Below w.heap.size w w'->SlP w' w'.heap.size 3 SpE vcb cb):=fun w' hb=>hcb.imp hb hb.size fun _ _ _ h=>h
 obtain⟨A1,m1,rfl,a1,a2,a3⟩:=ha
 obtain⟨A2,m2,rfl,b1,b2,b3⟩:=hb
 obtain⟨A3,m3,rfl,_,_,_⟩:=hca
 obtain⟨A4,m4,rfl,_,_,_⟩:=hcb
 unfold Big at a2 b2
 go_enter Tryz.func154,Tryz.ntmps154
 go_wp2_with fail
 go_loopw [9,10,11] (fun v i k wr=>∃ (out:List En) (p q:Nat),OwnP wr w.heap.size 80 4 EnE v out/\i=.int .i64 p/\k=.int .i64 q/\p<=a.length/\q<=b.length/\Hid (out++entL ca cb (a.drop p) (b.drop q)=entL ca cb a b)/\out.length<=p+q/\Below w.heap.size w wr) (fun _ i k _=>a.length-(intOf i).toNat+(b.length-(intOf k).toNat))
 case atStart=>exact⟨[],0,0,OwnP.nil,rfl,rfl,Nat.zero_le _,Nat.zero_le _,by unfold Hid;simp,by simp,Below.refl _ _⟩
 case round=>
  obtain⟨out,p,q,hown,rfl,rfl,hp,hq,hrel,hol,hBwr⟩:=hrel
  have hOwr:=hid hown
  clear hown
  by_cases hlp:p<a.length
  ·obtain⟨x,hx⟩:∃ x,a[p]?=some x:=⟨_,List.getElem?_eq_getElem hlp⟩
   obtain⟨ba,oa,rfl,hba,hca'⟩:=a3 (by rintro rfl;simp at hlp)
   obtain⟨cs,⟨rfl,hokx⟩,_,hu⟩:=hca' p _ hx
   have HXC:Hid (∀ w',Below w.heap.size w w'->w'.cell? ⟨ba,oa+p*4,none⟩=some (.int .i64 x.dc)/\w'.cell? ⟨ba,oa+p*4+1,none⟩=some (.int .i64 x.n)/\w'.cell? ⟨ba,oa+p*4+2,none⟩=some (.string x.s)/\w'.cell? ⟨ba,oa+p*4+3,none⟩=some (.int .i64 x.v)):=fun w' hb'=>
    ⟨(hb'.cell hba).trans (hu 0 _ rfl),(hb'.cell hba).trans (hu 1 _ rfl),(hb'.cell hba).trans (hu 2 _ rfl),(hb'.cell hba).trans (hu 3 _ rfl)⟩
   have HXE:Hid (EnE x [.int .i64 x.dc,.int .i64 x.n,.string x.s,.int .i64 x.v]):=⟨rfl,hokx⟩
   have HPX:=hid (QJ hx)
   have t1:decide ((p:Int)<(a.length:Int))=true:=by simp;omega
   have t2:((p:Int)==(a.length:Int))=false:=by simp;omega
   clear hu hca' hx a3 hokx
   by_cases hlq:q<b.length
   ·obtain⟨y,hy⟩:∃ y,b[q]?=some y:=⟨_,List.getElem?_eq_getElem hlq⟩
    obtain⟨bb,ob,rfl,hbb,hcb'⟩:=b3 (by rintro rfl;simp at hlq)
    obtain⟨cs,⟨rfl,hoky⟩,_,hu⟩:=hcb' q _ hy
    have HYC:Hid (∀ w',Below w.heap.size w w'->w'.cell? ⟨bb,ob+q*4,none⟩=some (.int .i64 y.dc)/\w'.cell? ⟨bb,ob+q*4+1,none⟩=some (.int .i64 y.n)/\w'.cell? ⟨bb,ob+q*4+2,none⟩=some (.string y.s)/\w'.cell? ⟨bb,ob+q*4+3,none⟩=some (.int .i64 y.v)):=fun w' hb'=>
     ⟨(hb'.cell hbb).trans (hu 0 _ rfl),(hb'.cell hbb).trans (hu 1 _ rfl),(hb'.cell hbb).trans (hu 2 _ rfl),(hb'.cell hbb).trans (hu 3 _ rfl)⟩
    have HYE:Hid (EnE y [.int .i64 y.dc,.int .i64 y.n,.string y.s,.int .i64 y.v]):=⟨rfl,hoky⟩
    have HPY:=hid (QJ hy)
    have t3:decide ((q:Int)<(b.length:Int))=true:=by simp;omega
    have t4:((q:Int)==(b.length:Int))=false:=by simp;omega
    clear hu hcb' hy b3 hoky
    obtain⟨x0,x1,_,_⟩:=HXC.out wr hBwr
    have fx0:=Qh (B:=wr.heap.size) x0 (by have:=hBwr.size;omega)
    have fx1:=Qh (B:=wr.heap.size) x1 (by have:=hBwr.size;omega)
    clear x0 x1
    obtain⟨y0,y1,_,_⟩:=HYC.out wr hBwr
    have fy0:=Qh (B:=wr.heap.size) y0 (by have:=hBwr.size;omega)
    have fy1:=Qh (B:=wr.heap.size) y1 (by have:=hBwr.size;omega)
    clear y0 y1
    have hE:entL ca cb (x :: a.drop (p+1)) (y :: b.drop (q+1))=if x.dot.lt y.dot then stayL cb x++entL ca cb (a.drop (p+1)) (y :: b.drop (q+1)) else if y.dot.lt x.dot then stayL ca y++entL ca cb (x :: a.drop (p+1)) (b.drop (q+1)) else grtE x y :: entL ca cb (a.drop (p+1)) (b.drop (q+1)):=by rw[entL]
    have c1:decide (Dt.cmp ⟨x.dc,x.n⟩ ⟨y.dc,y.n⟩<0)=x.dot.lt y.dot:=qVn _ _
    have c2:decide (Dt.cmp ⟨y.dc,y.n⟩ ⟨x.dc,x.n⟩<0)=y.dot.lt x.dot:=qVn _ _
    rcases hl1:x.dot.lt y.dot
    ·rw[hl1]at c1 hE
     rcases hl2:y.dot.lt x.dot
     ·rw[hl2]at c2 hE
      have HREL:Hid (out++(grtE x y :: entL ca cb (a.drop (p+1)) (b.drop (q+1)))=entL ca cb a b):=by
       have h1:=hrel.out;rw[HPX.out,HPY.out,hE]at h1;exact h1
      clear hE hl1 hl2 hrel
      go_upto_region 7 with (fail)
      refine Qc wr.heap.size (by kernel_rfl) (by kernel_rfl) ?_
      repeat (go_big_quiet_step ((go_at_call 176;exact Calls.far_of (Nat.le_refl _) (QP ⟨_,_⟩ ⟨_,_⟩ _))))
      refine wpQuiet_nil ?_
      intro wp hbwp
      have hBwp:Below w.heap.size w wp:=hBwr.trans (hbwp.mono (by have:=hBwr.size;omega))
      have hOwp:=hid (hOwr.out.grow hbwp)
      clear hbwp
      go_wp2_with fail
      clear fx0 fx1 fy0 fy1
      obtain⟨x0,x1,_,_⟩:=HXC.out wp hBwp
      have fx0:=Qh (B:=wp.heap.size) x0 (by have:=hBwp.size;omega)
      have fx1:=Qh (B:=wp.heap.size) x1 (by have:=hBwp.size;omega)
      clear x0 x1
      obtain⟨y0,y1,_,_⟩:=HYC.out wp hBwp
      have fy0:=Qh (B:=wp.heap.size) y0 (by have:=hBwp.size;omega)
      have fy1:=Qh (B:=wp.heap.size) y1 (by have:=hBwp.size;omega)
      clear y0 y1
      go_upto_region 11 with (fail)
      refine Qc wp.heap.size (by kernel_rfl) (by kernel_rfl) ?_
      repeat (go_big_quiet_step ((go_at_call 176;exact Calls.far_of (Nat.le_refl _) (QP ⟨_,_⟩ ⟨_,_⟩ _))))
      refine wpQuiet_nil ?_
      intro wq hbwq
      have hBwq:Below w.heap.size w wq:=hBwp.trans (hbwq.mono (by have:=hBwp.size;omega))
      have hOwq:=hid (hOwp.out.grow hbwq)
      clear hbwq
      go_wp2_with fail
      clear fx0 fx1 fy0 fy1
      obtain⟨z,hz⟩:∃ z,z=grtE x y:=⟨_,rfl⟩
      have HZQ:=hid hz
      have HZE:Hid (EnE z [.int .i64 z.dc,.int .i64 z.n,.string z.s,.int .i64 z.v]):=by
       rw[hz];unfold grtE;split
       ·exact HYE.out
       ·exact HXE.out
      have HXY:Hid (∀ w',Below w.heap.size w w'->w'.cell? ⟨ba,oa+p*4,none⟩=some (.int .i64 x.dc)/\w'.cell? ⟨ba,oa+p*4+1,none⟩=some (.int .i64 x.n)/\w'.cell? ⟨ba,oa+p*4+2,none⟩=some (.string x.s)/\w'.cell? ⟨ba,oa+p*4+3,none⟩=some (.int .i64 x.v)/\w'.cell? ⟨bb,ob+q*4,none⟩=some (.int .i64 y.dc)/\w'.cell? ⟨bb,ob+q*4+1,none⟩=some (.int .i64 y.n)/\w'.cell? ⟨bb,ob+q*4+2,none⟩=some (.string y.s)/\w'.cell? ⟨bb,ob+q*4+3,none⟩=some (.int .i64 y.v)):=fun w' hb'=>by
       obtain⟨x0,x1,x2,x3⟩:=HXC.out w' hb'
       obtain⟨y0,y1,y2,y3⟩:=HYC.out w' hb'
       exact⟨x0,x1,x2,x3,y0,y1,y2,y3⟩
      have HL:Hid (out.length + [z].length<=Few):=by unfold Hid Few;simp;omega
      have HRX:Hid (out++[z]++entL ca cb (a.drop (p+1)) (b.drop (q+1))=entL ca cb a b):=by
       unfold Hid;rw[←HREL.out,hz,List.append_assoc];rfl
      have hsq:=hBwq.size
      obtain⟨x0,x1,x2,x3⟩:=HXC.out wq hBwq
      obtain⟨y0,y1,y2,y3⟩:=HYC.out wq hBwq
      clear hz HREL
      go_upto_region 4 with (fail)
      go_region_held3 (fun w'=>w'.cell? ⟨ba,oa+p*4,none⟩=some (.int .i64 x.dc)/\w'.cell? ⟨ba,oa+p*4+1,none⟩=some (.int .i64 x.n)/\w'.cell? ⟨ba,oa+p*4+2,none⟩=some (.string x.s)/\w'.cell? ⟨ba,oa+p*4+3,none⟩=some (.int .i64 x.v)/\w'.cell? ⟨bb,ob+q*4,none⟩=some (.int .i64 y.dc)/\w'.cell? ⟨bb,ob+q*4+1,none⟩=some (.int .i64 y.n)/\w'.cell? ⟨bb,ob+q*4+2,none⟩=some (.string y.s)/\w'.cell? ⟨bb,ob+q*4+3,none⟩=some (.int .i64 y.v))
       (first|go_keep|exact HXY.out _ hB2|exact HXY.out _ hB1)
       (first
           |(go_at_call 177;go_loud ((refine (qZs x y _).mono ?_);rw[←HZQ.out];rintro e w1 ⟨rfl,hb⟩;have hb1:Below wq.heap.size wq w1:=(Below.trans (by go_grown) (hb.mono (by simp)));have hB1:Below w.heap.size w w1:=hBwq.trans (hb1.mono hsq);have hown1:=hOwq.out.grow hb1))
           |(go_loud (refine ZW rfl (.tmp 22) (.tmp 32) _ rfl Yy (by decide) (by decide) (fun _ _ h=>h.one) rfl (hown1.alloc _) rfl (SlP.one (x:=z) HZE.out rfl _ rfl) HL.out (by rw[World.size_alloc];have:=hB1.size;omega) ?_);intro v2 w2 hown2 hb2 hg2;have hB2:Below w.heap.size w w2:=(hB1.alloc hB1.size _).trans hb2))
      all_goals
       go_wp2_with fail
       go_roundw
       case rel=>exact⟨out++[z],p+1,q+1,hown2,by go_num,by go_num,by omega,by omega,HRX.out,by simp;omega,hB2⟩
       case measure=>simp[intOf];omega
     ·rw[hl2]at c2 hE
      have HREL:Hid (out++(stayL ca y++entL ca cb (a.drop p) (b.drop (q+1)))=entL ca cb a b):=by
       have h1:=hrel.out;rw[HPX.out,HPY.out,hE]at h1;rw[HPX.out];exact h1
      clear hE hl1 hl2 hrel
      go_upto_region 7 with (fail)
      refine Qc wr.heap.size (by kernel_rfl) (by kernel_rfl) ?_
      repeat (go_big_quiet_step ((go_at_call 176;exact Calls.far_of (Nat.le_refl _) (QP ⟨_,_⟩ ⟨_,_⟩ _))))
      refine wpQuiet_nil ?_
      intro wp hbwp
      have hBwp:Below w.heap.size w wp:=hBwr.trans (hbwp.mono (by have:=hBwr.size;omega))
      have hOwp:=hid (hOwr.out.grow hbwp)
      clear hbwp
      go_wp2_with fail
      clear fx0 fx1 fy0 fy1
      obtain⟨x0,x1,_,_⟩:=HXC.out wp hBwp
      have fx0:=Qh (B:=wp.heap.size) x0 (by have:=hBwp.size;omega)
      have fx1:=Qh (B:=wp.heap.size) x1 (by have:=hBwp.size;omega)
      clear x0 x1
      obtain⟨y0,y1,_,_⟩:=HYC.out wp hBwp
      have fy0:=Qh (B:=wp.heap.size) y0 (by have:=hBwp.size;omega)
      have fy1:=Qh (B:=wp.heap.size) y1 (by have:=hBwp.size;omega)
      clear y0 y1
      go_upto_region 11 with (fail)
      refine Qc wp.heap.size (by kernel_rfl) (by kernel_rfl) ?_
      repeat (go_big_quiet_step ((go_at_call 176;exact Calls.far_of (Nat.le_refl _) (QP ⟨_,_⟩ ⟨_,_⟩ _))))
      refine wpQuiet_nil ?_
      intro wq hbwq
      have hBwq:Below w.heap.size w wq:=hBwp.trans (hbwq.mono (by have:=hBwp.size;omega))
      have hOwq:=hid (hOwp.out.grow hbwq)
      clear hbwq
      clear fx0 fx1 fy0 fy1
      obtain⟨y0,y1,y2,y3⟩:=HYC.out wq hBwq
      go_wp2_with fail
      refine (Xw ca ⟨y.dc,y.n⟩ _ _ (HCA.out _ hBwq) hN1).mono ?_
      rintro e w1 ⟨rfl,hb1⟩
      have hBw1:Below w.heap.size w w1:=hBwq.trans (hb1.mono (by have:=hBwq.size;omega))
      have hown1:=hOwq.out.grow hb1
      clear y0 y1 y2 y3 hb1
      obtain⟨y0,y1,y2,y3⟩:=HYC.out w1 hBw1
      cases hh:cHas ca ⟨y.dc,y.n⟩
      ·have HRX:Hid (out++[y]++entL ca cb (a.drop p) (b.drop (q+1))=entL ca cb a b):=by
        have h1:=HREL.out;rw[show stayL ca y=[y] by (unfold stayL;rw[show cHas ca y.dot=false from hh];rfl)]at h1
        unfold Hid;rw[←h1,List.append_assoc]
       have HL:Hid (out.length + [y].length<=Few):=by unfold Hid Few;simp;omega
       clear hh
       go_wp2_with (at_builtin;go_loud ((with_reducible refine Qk rfl (.tmp 107) (.tmp 112) _ rfl Yy (by decide) (by decide) (fun _ _ h=>h.one) rfl (hown1.alloc _) rfl (SlP.one (x:=y) HYE.out rfl _ rfl) HL.out (by rw[World.size_alloc];have:=hBw1.size;omega) ?_);intro v1 w2 hown2 hb2 _))
       go_roundw
       case rel=>exact⟨out++[y],p,q+1,hown2,rfl,by go_num,hp,by omega,HRX.out,by simp;omega,(hBw1.alloc hBw1.size _).trans hb2⟩
       case measure=>simp[intOf];omega
      ·have HRX:Hid (out++entL ca cb (a.drop p) (b.drop (q+1))=entL ca cb a b):=by
        have h1:=HREL.out;rw[show stayL ca y=[] by (unfold stayL;rw[show cHas ca y.dot=true from hh];rfl),List.nil_append]at h1
        exact h1
       clear hh
       go_wp2_with fail
       go_roundw
       case rel=>exact⟨out,p,q+1,hown1,rfl,by go_num,hp,by omega,HRX.out,by omega,hBw1⟩
       case measure=>simp[intOf];omega
    ·rw[hl1]at c1 hE
     have HREL:Hid (out++(stayL cb x++entL ca cb (a.drop (p+1)) (b.drop q))=entL ca cb a b):=by
      have h1:=hrel.out;rw[HPX.out,HPY.out,hE]at h1;rw[HPY.out];exact h1
     clear hE hl1 hrel c2
     go_upto_region 7 with (fail)
     refine Qc wr.heap.size (by kernel_rfl) (by kernel_rfl) ?_
     repeat (go_big_quiet_step ((go_at_call 176;exact Calls.far_of (Nat.le_refl _) (QP ⟨_,_⟩ ⟨_,_⟩ _))))
     refine wpQuiet_nil ?_
     intro wp hbwp
     have hBwp:Below w.heap.size w wp:=hBwr.trans (hbwp.mono (by have:=hBwr.size;omega))
     have hOwp:=hid (hOwr.out.grow hbwp)
     clear hbwp
     clear fx0 fx1 fy0 fy1
     obtain⟨x0,x1,x2,x3⟩:=HXC.out wp hBwp
     go_wp2_with fail
     refine (Xw cb ⟨x.dc,x.n⟩ _ _ (HCB.out _ hBwp) hN2).mono ?_
     rintro e w1 ⟨rfl,hb1⟩
     have hBw1:Below w.heap.size w w1:=hBwp.trans (hb1.mono (by have:=hBwp.size;omega))
     have hown1:=hOwp.out.grow hb1
     clear x0 x1 x2 x3 hb1
     obtain⟨x0,x1,x2,x3⟩:=HXC.out w1 hBw1
     cases hh:cHas cb ⟨x.dc,x.n⟩
     ·have HRX:Hid (out++[x]++entL ca cb (a.drop (p+1)) (b.drop q)=entL ca cb a b):=by
       have h1:=HREL.out;rw[show stayL cb x=[x] by (unfold stayL;rw[show cHas cb x.dot=false from hh];rfl)]at h1
       unfold Hid;rw[←h1,List.append_assoc]
      have HL:Hid (out.length + [x].length<=Few):=by unfold Hid Few;simp;omega
      clear hh
      go_wp2_with (at_builtin;go_loud ((with_reducible refine Qk rfl (.tmp 71) (.tmp 76) _ rfl Yy (by decide) (by decide) (fun _ _ h=>h.one) rfl (hown1.alloc _) rfl (SlP.one (x:=x) HXE.out rfl _ rfl) HL.out (by rw[World.size_alloc];have:=hBw1.size;omega) ?_);intro v1 w2 hown2 hb2 _))
      go_roundw
      case rel=>exact⟨out++[x],p+1,q,hown2,by go_num,rfl,by omega,hq,HRX.out,by simp;omega,(hBw1.alloc hBw1.size _).trans hb2⟩
      case measure=>simp[intOf];omega
     ·have HRX:Hid (out++entL ca cb (a.drop (p+1)) (b.drop q)=entL ca cb a b):=by
       have h1:=HREL.out;rw[show stayL cb x=[] by (unfold stayL;rw[show cHas cb x.dot=true from hh];rfl),List.nil_append]at h1
       exact h1
      clear hh
      go_wp2_with fail
      go_roundw
      case rel=>exact⟨out,p+1,q,hown1,by go_num,rfl,by omega,hq,HRX.out,by omega,hBw1⟩
      case measure=>simp[intOf];omega
   ·have hqe:q=b.length:=by omega
    have HREL:Hid (out++(stayL cb x++entL ca cb (a.drop (p+1)) (b.drop q))=entL ca cb a b):=by
     have h1:=hrel.out;rw[HPX.out,hqe,List.drop_of_length_le (Nat.le_refl _),entL]at h1;rw[hqe,List.drop_of_length_le (Nat.le_refl _)];exact h1
    have t3:decide ((q:Int)<(b.length:Int))=false:=by simp;omega
    have t4:((q:Int)==(b.length:Int))=true:=by simp;omega
    clear hrel hqe b3
    go_upto_region 7 with (fail)
    refine Qc wr.heap.size (by kernel_rfl) (by kernel_rfl) ?_
    repeat (go_big_quiet_step ((go_at_call 176;exact Calls.far_of (Nat.le_refl _) (QP ⟨_,_⟩ ⟨_,_⟩ _))))
    refine wpQuiet_nil ?_
    intro wp hbwp
    have hBwp:Below w.heap.size w wp:=hBwr.trans (hbwp.mono (by have:=hBwr.size;omega))
    have hOwp:=hid (hOwr.out.grow hbwp)
    clear hbwp
    obtain⟨x0,x1,x2,x3⟩:=HXC.out wp hBwp
    go_wp2_with fail
    refine (Xw cb ⟨x.dc,x.n⟩ _ _ (HCB.out _ hBwp) hN2).mono ?_
    rintro e w1 ⟨rfl,hb1⟩
    have hBw1:Below w.heap.size w w1:=hBwp.trans (hb1.mono (by have:=hBwp.size;omega))
    have hown1:=hOwp.out.grow hb1
    clear x0 x1 x2 x3 hb1
    obtain⟨x0,x1,x2,x3⟩:=HXC.out w1 hBw1
    cases hh:cHas cb ⟨x.dc,x.n⟩
    ·have HRX:Hid (out++[x]++entL ca cb (a.drop (p+1)) (b.drop q)=entL ca cb a b):=by
      have h1:=HREL.out;rw[show stayL cb x=[x] by (unfold stayL;rw[show cHas cb x.dot=false from hh];rfl)]at h1
      unfold Hid;rw[←h1,List.append_assoc]
     have HL:Hid (out.length + [x].length<=Few):=by unfold Hid Few;simp;omega
     clear hh
     go_wp2_with (at_builtin;go_loud ((with_reducible refine Qk rfl (.tmp 71) (.tmp 76) _ rfl Yy (by decide) (by decide) (fun _ _ h=>h.one) rfl (hown1.alloc _) rfl (SlP.one (x:=x) HXE.out rfl _ rfl) HL.out (by rw[World.size_alloc];have:=hBw1.size;omega) ?_);intro v1 w2 hown2 hb2 _))
     go_roundw
     case rel=>exact⟨out++[x],p+1,q,hown2,by go_num,rfl,by omega,hq,HRX.out,by simp;omega,(hBw1.alloc hBw1.size _).trans hb2⟩
     case measure=>simp[intOf];omega
    ·have HRX:Hid (out++entL ca cb (a.drop (p+1)) (b.drop q)=entL ca cb a b):=by
      have h1:=HREL.out;rw[show stayL cb x=[] by (unfold stayL;rw[show cHas cb x.dot=true from hh];rfl),List.nil_append]at h1
      exact h1
     clear hh
     go_wp2_with fail
     go_roundw
     case rel=>exact⟨out,p+1,q,hown1,by go_num,rfl,by omega,hq,HRX.out,by omega,hBw1⟩
     case measure=>simp[intOf];omega
  ·have hpe:p=a.length:=by omega
   have t1:decide ((p:Int)<(a.length:Int))=false:=by simp;omega
   have t2:((p:Int)==(a.length:Int))=true:=by simp;omega
   by_cases hlq:q<b.length
   ·obtain⟨y,hy⟩:∃ y,b[q]?=some y:=⟨_,List.getElem?_eq_getElem hlq⟩
    obtain⟨bb,ob,rfl,hbb,hcb'⟩:=b3 (by rintro rfl;simp at hlq)
    obtain⟨cs,⟨rfl,hoky⟩,_,hu⟩:=hcb' q _ hy
    have HYC:Hid (∀ w',Below w.heap.size w w'->w'.cell? ⟨bb,ob+q*4,none⟩=some (.int .i64 y.dc)/\w'.cell? ⟨bb,ob+q*4+1,none⟩=some (.int .i64 y.n)/\w'.cell? ⟨bb,ob+q*4+2,none⟩=some (.string y.s)/\w'.cell? ⟨bb,ob+q*4+3,none⟩=some (.int .i64 y.v)):=fun w' hb'=>
     ⟨(hb'.cell hbb).trans (hu 0 _ rfl),(hb'.cell hbb).trans (hu 1 _ rfl),(hb'.cell hbb).trans (hu 2 _ rfl),(hb'.cell hbb).trans (hu 3 _ rfl)⟩
    have HYE:Hid (EnE y [.int .i64 y.dc,.int .i64 y.n,.string y.s,.int .i64 y.v]):=⟨rfl,hoky⟩
    have HPY:=hid (QJ hy)
    have t3:decide ((q:Int)<(b.length:Int))=true:=by simp;omega
    have t4:((q:Int)==(b.length:Int))=false:=by simp;omega
    have HREL:Hid (out++(stayL ca y++entL ca cb (a.drop p) (b.drop (q+1)))=entL ca cb a b):=by
     have h1:=hrel.out;rw[HPY.out,hpe,List.drop_of_length_le (Nat.le_refl _),entL]at h1;rw[hpe,List.drop_of_length_le (Nat.le_refl _)];exact h1
    clear hu hcb' hy b3 a3 hoky hrel hpe
    go_upto_region 7 with (fail)
    refine Qc wr.heap.size (by kernel_rfl) (by kernel_rfl) ?_
    repeat (go_big_quiet_step ((go_at_call 176;exact Calls.far_of (Nat.le_refl _) (QP ⟨_,_⟩ ⟨_,_⟩ _))))
    refine wpQuiet_nil ?_
    intro wp hbwp
    have hBwp:Below w.heap.size w wp:=hBwr.trans (hbwp.mono (by have:=hBwr.size;omega))
    have hOwp:=hid (hOwr.out.grow hbwp)
    clear hbwp
    go_wp2_with fail
    go_upto_region 11 with (fail)
    refine Qc wp.heap.size (by kernel_rfl) (by kernel_rfl) ?_
    repeat (go_big_quiet_step ((go_at_call 176;exact Calls.far_of (Nat.le_refl _) (QP ⟨_,_⟩ ⟨_,_⟩ _))))
    refine wpQuiet_nil ?_
    intro wq hbwq
    have hBwq:Below w.heap.size w wq:=hBwp.trans (hbwq.mono (by have:=hBwp.size;omega))
    have hOwq:=hid (hOwp.out.grow hbwq)
    clear hbwq
    obtain⟨y0,y1,y2,y3⟩:=HYC.out wq hBwq
    go_wp2_with fail
    refine (Xw ca ⟨y.dc,y.n⟩ _ _ (HCA.out _ hBwq) hN1).mono ?_
    rintro e w1 ⟨rfl,hb1⟩
    have hBw1:Below w.heap.size w w1:=hBwq.trans (hb1.mono (by have:=hBwq.size;omega))
    have hown1:=hOwq.out.grow hb1
    clear y0 y1 y2 y3 hb1
    obtain⟨y0,y1,y2,y3⟩:=HYC.out w1 hBw1
    cases hh:cHas ca ⟨y.dc,y.n⟩
    ·have HRX:Hid (out++[y]++entL ca cb (a.drop p) (b.drop (q+1))=entL ca cb a b):=by
      have h1:=HREL.out;rw[show stayL ca y=[y] by (unfold stayL;rw[show cHas ca y.dot=false from hh];rfl)]at h1
      unfold Hid;rw[←h1,List.append_assoc]
     have HL:Hid (out.length + [y].length<=Few):=by unfold Hid Few;simp;omega
     clear hh
     go_wp2_with (at_builtin;go_loud ((with_reducible refine Qk rfl (.tmp 107) (.tmp 112) _ rfl Yy (by decide) (by decide) (fun _ _ h=>h.one) rfl (hown1.alloc _) rfl (SlP.one (x:=y) HYE.out rfl _ rfl) HL.out (by rw[World.size_alloc];have:=hBw1.size;omega) ?_);intro v1 w2 hown2 hb2 _))
     go_roundw
     case rel=>exact⟨out++[y],p,q+1,hown2,rfl,by go_num,hp,by omega,HRX.out,by simp;omega,(hBw1.alloc hBw1.size _).trans hb2⟩
     case measure=>simp[intOf];omega
    ·have HRX:Hid (out++entL ca cb (a.drop p) (b.drop (q+1))=entL ca cb a b):=by
      have h1:=HREL.out;rw[show stayL ca y=[] by (unfold stayL;rw[show cHas ca y.dot=true from hh];rfl),List.nil_append]at h1
      exact h1
     clear hh
     go_wp2_with fail
     go_roundw
     case rel=>exact⟨out,p,q+1,hown1,rfl,by go_num,hp,by omega,HRX.out,by omega,hBw1⟩
     case measure=>simp[intOf];omega
   ·have hqe:q=b.length:=by omega
    have t3:decide ((q:Int)<(b.length:Int))=false:=by simp;omega
    have HR:Hid (out=entL ca cb a b):=by
     have h1:=hrel.out;rw[hpe,hqe,List.drop_of_length_le (Nat.le_refl _),List.drop_of_length_le (Nat.le_refl _),entL,List.append_nil]at h1;exact h1
    clear hrel hpe hqe a3 b3
    go_wp2_with fail
    go_ret
    exact⟨_,rfl,by rw[←HR.out];exact hOwr.out,hBwr⟩
theorem K6 (x s:ByteArray)(A A':Option Addr)(n c n' c':Nat)(w:World) :
  Calls Tryz.prog 180 #[.agg #[.string x,.slice A n c,.slice A' n' c'],.string s] w fun e w'=>e=.returned (.int .i64 (cmpS x s))/\Below w.heap.size w w':=by
 go_enter Tryz.func180,Tryz.ntmps180
 go_wp2_with fail
 refine (qQg x s _).mono ?_
 rintro e w1 ⟨rfl,rfl⟩
 go_wp2_with fail
 go_ret
 exact⟨rfl,by go_grown⟩
theorem XB:∀ args W,(callFunc 180 args).run Tryz.prog W=.ok (.enter 180 args) W:=enters_of Tryz.func180 (by kernel_rfl) rfl
theorem zXj (ks:List Kd)(s:ByteArray)(v:Value)(w:World)(h:SlP w w.heap.size 3 (KdE w w.heap.size) v ks)(hS:ks.Pairwise fun a b=>ltS a.1 b.1=true) :
  Calls Tryz.prog 179 #[v,.string s,.func (.func 180) #[] #[]] w fun e w'=>
   ((∃ (i:Nat) (t:Tr),e=.returned (.tuple #[.int .i64 i,.bool true])/\ks[i]?=some (s,t))∨(∃ i:Int,e=.returned (.tuple #[.int .i64 i,.bool false])/\∀ t,(s,t)∉ks))/\Below w.heap.size w w':=by
 obtain⟨A,n,rfl,b1,b2,b3⟩:=h
 unfold Big at b2
 go_enter Tryz.func179,Tryz.ntmps179
 go_wp2_with fail
 go_loopw [9,10] (fun a b wr=>∃ lo hi:Nat,lo<=hi/\hi<=ks.length/\a=.int .i64 lo/\b=.int .i64 hi/\Hid (∀ (j:Nat) y,j<lo->ks[j]?=some y->ltS y.1 s=true)/\Hid (∀ (j:Nat) y,hi<=j->ks[j]?=some y->ltS y.1 s=false)/\Below w.heap.size w wr) (fun a b _=>(intOf b).toNat-(intOf a).toNat)
 case atStart=>exact⟨0,ks.length,Nat.zero_le _,Nat.le_refl _,rfl,rfl,fun j y hj=>absurd hj (Nat.not_lt_zero _),fun j y hj hy=>by have:=(List.getElem?_eq_some_iff.1 hy).1;omega,Below.refl _ _⟩
 case round=>
  obtain⟨lo,hi,hlh,hhn,rfl,rfl,HLO,HHI,hb⟩:=hrel
  have hsz:=hb.size
  by_cases hlt:lo<hi
  ·obtain⟨m,hm,hm1,hm2⟩:∃ m:Nat,((lo:Int)+(hi:Int)) / 2=(m:Int)/\lo<=m/\m<hi:=⟨(lo+hi) / 2,by omega,by omega,by omega⟩
   obtain⟨x,hx⟩:∃ x,ks[m]?=some x:=⟨_,List.getElem?_eq_getElem (by omega)⟩
   obtain⟨b,off,rfl,hbB,hc⟩:=b3 (by rintro rfl;simp at hhn;omega)
   obtain⟨cs,⟨ve,vk,rfl,hok,hrd⟩,_,hu⟩:=hc m _ hx
   obtain⟨A3,n3,A4,n4,rfl,rfl⟩:=Qj hrd
   have e0:wr.cell? ⟨b,off+m*3,none⟩=some (.string x.1):=(hb.cell hbB).trans (hu 0 _ rfl)
   have e1:wr.cell? ⟨b,off+m*3+1,none⟩=some (.slice A3 x.2.es.length n3):=(hb.cell hbB).trans (hu 1 _ rfl)
   have e2:wr.cell? ⟨b,off+m*3+2,none⟩=some (.slice A4 x.2.ks.length n4):=(hb.cell hbB).trans (hu 2 _ rfl)
   have hcall:=K6 x.1 s A3 A4 x.2.es.length n3 x.2.ks.length n4 wr
   have eg:=XB
   have HX:=hid hx
   have HLT:Hid (∀ (j:Nat) y,j<m->ks[j]?=some y->ltS y.1 x.1=true):=fun j y hj hy=>by
    obtain⟨h1,h2⟩:=List.getElem?_eq_some_iff.1 hy
    obtain⟨h3,h4⟩:=List.getElem?_eq_some_iff.1 hx
    rw[List.pairwise_iff_getElem]at hS
    have:=hS j m h1 h3 hj
    rw[h2,h4]at this;exact this
   have HGT:Hid (∀ (j:Nat) y,m<j->ks[j]?=some y->ltS x.1 y.1=true):=fun j y hj hy=>by
    obtain⟨h1,h2⟩:=List.getElem?_eq_some_iff.1 hy
    obtain⟨h3,h4⟩:=List.getElem?_eq_some_iff.1 hx
    rw[List.pairwise_iff_getElem]at hS
    have:=hS m j h3 h1 hj
    rw[h2,h4]at this;exact this
   clear hu hc b3 hx hrd hS
   rcases hq:ltS x.1 s
   ·have HQ:=hid hq
    have hcv:decide (cmpS x.1 s<0)=false:=by
     unfold cmpS;rw[hq];simp only[Bool.false_eq_true,if_false];split<;>decide
    clear hq
    have HN:Hid (∀ (j:Nat) y,m<=j->ks[j]?=some y->ltS y.1 s=false):=fun j y hj hy=>by
     by_cases hjm:j=m
     ·subst hjm;have h2:=HX.out;rw[hy]at h2;cases h2;exact HQ.out
     ·cases hys:ltS y.1 s
      ·rfl
      ·have h3:=QF (HGT.out j y (by omega) hy) hys
       rw[HQ.out]at h3;cases h3
    go_wp2_with (go_at_fn 180;refine hcall.mono ?_;rintro e w1 ⟨rfl,hb1⟩)
    go_roundw
    case rel=>exact⟨lo,m,hm1,by omega,rfl,by go_num,HLO.out,HN.out,hb.trans (hb1.mono hsz)⟩
    case measure=>simp[intOf];omega
   ·have HQ:=hid hq
    have hcv:decide (cmpS x.1 s<0)=true:=by unfold cmpS;rw[hq,if_pos rfl];decide
    clear hq
    have HN:Hid (∀ (j:Nat) y,j<m+1->ks[j]?=some y->ltS y.1 s=true):=fun j y hj hy=>by
     by_cases hjm:j=m
     ·subst hjm;have h2:=HX.out;rw[hy]at h2;cases h2;exact HQ.out
     ·exact QF (HLT.out j y (by omega) hy) HQ.out
    go_wp2_with (go_at_fn 180;refine hcall.mono ?_;rintro e w1 ⟨rfl,hb1⟩)
    go_roundw
    case rel=>exact⟨m+1,hi,by omega,hhn,by go_num,rfl,HN.out,HHI.out,hb.trans (hb1.mono hsz)⟩
    case measure=>simp[intOf];omega
  ·obtain rfl:lo=hi:=by omega
   by_cases hn:lo<ks.length
   ·obtain⟨x,hx⟩:∃ x,ks[lo]?=some x:=⟨_,List.getElem?_eq_getElem hn⟩
    obtain⟨b,off,rfl,hbB,hc⟩:=b3 (by rintro rfl;simp at hn)
    obtain⟨cs,⟨ve,vk,rfl,hok,hrd⟩,_,hu⟩:=hc lo _ hx
    obtain⟨A3,n3,A4,n4,rfl,rfl⟩:=Qj hrd
    have e0:wr.cell? ⟨b,off+lo*3,none⟩=some (.string x.1):=(hb.cell hbB).trans (hu 0 _ rfl)
    have e1:wr.cell? ⟨b,off+lo*3+1,none⟩=some (.slice A3 x.2.es.length n3):=(hb.cell hbB).trans (hu 1 _ rfl)
    have e2:wr.cell? ⟨b,off+lo*3+2,none⟩=some (.slice A4 x.2.ks.length n4):=(hb.cell hbB).trans (hu 2 _ rfl)
    have hcall:=K6 x.1 s A3 A4 x.2.es.length n3 x.2.ks.length n4 wr
    have eg:=XB
    have h0:=HHI.out lo x (Nat.le_refl _) hx
    have HX:=hid hx
    have HGT:Hid (∀ (j:Nat) y,lo<j->ks[j]?=some y->ltS x.1 y.1=true):=fun j y hj hy=>by
     obtain⟨h1,h2⟩:=List.getElem?_eq_some_iff.1 hy
     obtain⟨h3,h4⟩:=List.getElem?_eq_some_iff.1 hx
     rw[List.pairwise_iff_getElem]at hS
     have:=hS lo j h3 h1 hj
     rw[h2,h4]at this;exact this
    have H0:=hid h0
    clear hu hc b3 hx hrd hS
    rcases hq:ltS s x.1
    ·have HE:Hid (x.1=s):=ZI h0 hq
     have hcv:(cmpS x.1 s==0)=true:=by unfold cmpS;rw[h0,hq];rfl
     clear h0 hq
     go_wp2_with (go_at_fn 180;refine hcall.mono ?_;rintro e w1 ⟨rfl,hb1⟩)
     go_ret2
     exact⟨.inl ⟨lo,x.2,rfl,by rw[HX.out,←HE.out]⟩,hb.trans (hb1.mono hsz)⟩
    ·have HQ:=hid hq
     have hcv:(cmpS x.1 s==0)=false:=by unfold cmpS;rw[h0,hq];rfl
     clear h0 hq
     go_wp2_with (go_at_fn 180;refine hcall.mono ?_;rintro e w1 ⟨rfl,hb1⟩)
     go_ret2
     refine⟨.inr ⟨lo,rfl,fun t ht=>?_⟩,hb.trans (hb1.mono hsz)⟩
     obtain⟨j,hj⟩:=List.getElem?_of_mem ht
     rcases Nat.lt_trichotomy j lo with h1|h1|h1
     ·have:=HLO.out j _ h1 hj;rw[Qx]at this;cases this
     ·subst h1;have h2:=HX.out;rw[hj]at h2;cases h2;have:=HQ.out;rw[Qx]at this;cases this
     ·have h2:=HGT.out j _ h1 hj;have h3:=H0.out;rw[h2]at h3;cases h3
   ·obtain rfl:lo=ks.length:=by omega
    clear b3 hS
    go_wp2_with fail
    go_ret2
    refine⟨.inr ⟨ks.length,rfl,fun t ht=>?_⟩,hb⟩
    obtain⟨j,hj⟩:=List.getElem?_of_mem ht
    have:=HLO.out j _ (List.getElem?_eq_some_iff.1 hj).1 hj;rw[Qx]at this;cases this
def elP (x:Kd):Bool:=decide (0<x.2.es.length)
def elL (ks:List Kd):List ByteArray:=(ks.filter elP).map (·.1)
theorem zQw {ks:List Kd}{k:Nat}{x:Kd}(h:ks[k]?=some x):elL (ks.take (k+1))=elL (ks.take k)++(if elP x then [x.1] else []):=by
 unfold elL
 rw[List.take_add_one,h,List.filter_append,List.map_append]
 cases hp:elP x<;>simp[hp]
theorem qWk (ks:List Kd):(elL ks).length<=ks.length:=by unfold elL;rw[List.length_map];exact List.length_filter_le _ _
def Zp (t:Tr):List ByteArray:=if t.right 5 then elL t.ks else []
theorem qJ9 (t:Tr)(w:World)(ve vk:Value)(h:t.rd w w.heap.size ve vk)(hN:t.ks.length<=900000) :
  Calls Tryz.prog 86 #[.agg #[ve,vk]] w (RetO w 9 1 (fun _=>StE) (Zp t)):=by
 have HC:Hid (∀ w',Below w.heap.size w w'->t.rd w' w'.heap.size ve vk):=fun w' hb=>Qi hb hb.size _ _ _ h
 have HK0:Hid (Zp t=if t.right 5 then elL t.ks else []):=rfl
 obtain⟨es,ks⟩:=t
 rw[QA]at h
 obtain⟨⟨A0,n0,rfl,d1,d2,d3⟩,⟨A,m,rfl,c1,c2,c3⟩⟩:=h
 unfold Big at c2 d2
 simp only[Tr.ks]at hN HK0 ⊢
 have hb0:Below w.heap.size w (w.alloc (.cells #[.slice A0 es.length n0,.slice A ks.length m] 25)):=(Below.refl _ w).alloc (Nat.le_refl _) _
 go_enter Tryz.func86,Tryz.ntmps86
 go_wp2_with fail
 refine (QG _ _ _ _ (HC.out _ hb0)).mono ?_
 rintro e w1 ⟨rfl,hb1⟩
 have hs1:=hb1.size
 simp only[World.size_alloc]at hs1
 have hB1:Below w.heap.size w w1:=hb0.trans (hb1.mono (by simp))
 have b1:w1.cell? ⟨w.heap.size,1,none⟩=some (.slice A ks.length m):=by rw[hb1.cell (p:=⟨w.heap.size,1,none⟩) (by simp)];simp
 cases hr:(Tr.mk es ks).right 5
 ·have HK:Hid (Zp (.mk es ks)=[]):=by unfold Hid;rw[HK0.out,hr];rfl
  clear hr
  go_wp2_with fail
  go_ret
  exact⟨_,rfl,by rw[HK.out];exact OwnP.nil,hB1⟩
 have HK:Hid (Zp (.mk es ks)=elL ks):=by unfold Hid;rw[HK0.out,hr];rfl
 clear hr d3 d2 d1
 go_wp2_with fail
 go_loopw [3,11] (fun v i wr=>∃ k:Nat,k<=ks.length/\i=.int .i64 k/\OwnP wr (w.heap.size+1) 9 1 StE v (elL (ks.take k))/\Below (w.heap.size+1) w1 wr) (fun _ i _=>ks.length-(intOf i).toNat)
 case atStart=>exact⟨0,Nat.zero_le _,rfl,OwnP.nil,Below.refl _ _⟩
 case round=>
  obtain⟨k,hk,rfl,hown,hb⟩:=hrel
  have hsz:=hb.size
  have hB0:Below w.heap.size w wr:=hB1.trans (hb.mono (by omega))
  by_cases hlt:k<ks.length
  ·obtain⟨⟨key,t⟩,hx⟩:∃ x,ks[k]?=some x:=⟨_,List.getElem?_eq_getElem hlt⟩
   obtain⟨b,off,rfl,hbB,hc⟩:=c3 (by rintro rfl;simp at hlt)
   obtain⟨cs,⟨ve',vk',rfl,hkb,hrd⟩,_,hu⟩:=hc k _ hx
   have hte:t.es.length<=140737488355328:=by have:=VM _ _ _ hrd;obtain⟨es',ks'⟩:=t;exact this.1
   obtain⟨A5,n5,A6,n6,rfl,rfl⟩:=Qj hrd
   have e0:wr.cell? ⟨b,off+k*3,none⟩=some (.string key):=(hB0.cell hbB).trans (hu 0 _ rfl)
   have e1:wr.cell? ⟨b,off+k*3+1,none⟩=some (.slice A5 t.es.length n5):=(hB0.cell hbB).trans (hu 1 _ rfl)
   have e2:wr.cell? ⟨b,off+k*3+2,none⟩=some (.slice A6 t.ks.length n6):=(hB0.cell hbB).trans (hu 2 _ rfl)
   have HT:Hid (elL (ks.take (k+1))=elL (ks.take k)++(if elP (key,t) then [key] else [])):=zQw hx
   have HKY:Hid (StE key [.string key]):=⟨rfl,hkb⟩
   have hfi:decide ((0:Int)<(t.es.length:Int))=decide (0<t.es.length):=by simp
   clear hu hc c3 hx hrd hb0 hb1 b1
   cases he:decide (0<t.es.length)
   ·have HX:Hid (elL (ks.take (k+1))=elL (ks.take k)):=by unfold Hid;rw[HT.out,show elP (key,t)=false from he];simp
    rw[he]at hfi
    go_wp2_with fail
    go_roundw
    case rel=>exact⟨k+1,by omega,by go_num,by rw[HX.out];exact hown.alloc _,hb.alloc (by omega) _⟩
    case measure=>simp[intOf];omega
   ·have HX:Hid (elL (ks.take (k+1))=elL (ks.take k)++[key]):=by unfold Hid;rw[HT.out,show elP (key,t)=true from he];rfl
    have HL:Hid ((elL (ks.take k)).length + [key].length<=Few):=by have:=qWk (ks.take k);unfold Hid Few;simp at this ⊢;omega
    rw[he]at hfi
    go_wp2_with (at_builtin;go_loud ((with_reducible refine Qk rfl (.tmp 20) (.tmp 23) _ rfl eiStr (by decide) (by decide) (fun _ _ h=>StE.one h) rfl ((hown.alloc _).alloc _) rfl (SlP.oneN (x:=key) HKY.out rfl _ rfl) HL.out (by simp only[World.size_alloc];omega) ?_);intro v1 w2 hown1 hb2 _;have hb3:=(((Below.refl (w.heap.size+1) wr).alloc (by omega) _).alloc (by simp only[World.size_alloc];omega) _).trans hb2))
    go_roundw
    case rel=>exact⟨k+1,by omega,by go_num,by rw[HX.out];exact hown1,hb.trans hb3⟩
    case measure=>simp[intOf];omega
  ·obtain rfl:k=ks.length:=by omega
   rw[List.take_of_length_le (Nat.le_refl _)]at hown
   go_wp2_with fail
   go_ret
   exact⟨_,rfl,by rw[HK.out];exact hown.mono (by omega),hB0⟩
theorem qZ1 (t:Tr):(Zp t).length<=t.ks.length:=by
 unfold Zp
 split
 ·exact qWk _
 ·simp
theorem qKa (key x:ByteArray)(A A':Option Addr)(n c n' c':Nat)(B:Nat)(w:World)(hc:w.cell? ⟨B,0,none⟩=some (.string key))(hB:B<w.heap.size) :
  Calls Tryz.prog 146 #[.agg #[.string x,.slice A n c,.slice A' n' c'],.pointer (some ⟨B,0,none⟩)] w fun e w'=>e=.returned (.bool (decide (x=key)))/\Below w.heap.size w w':=by
 have hne:B≠w.heap.size:=by omega
 have HE:Hid ((x.toList==key.toList)=decide (x=key)):=by
  unfold Hid;rw[Bool.eq_iff_iff];simp[QM]
 go_enter Tryz.func146,Tryz.ntmps146
 go_wp2_with fail
 go_ret
 exact⟨Qf HE.out,by go_grown⟩
theorem zXs {key:ByteArray}{B:Nat}{w:World}(hc:w.cell? ⟨B,0,none⟩=some (.string key))(hB:B<w.heap.size):JU 146 #[.pointer (some ⟨B,0,none⟩)] (fun x=>decide (x=key)) w:=
 ⟨enters_of Tryz.func146 (by kernel_rfl) rfl,fun x A A' n c n' c' W _ hW=>qKa key x A A' n c n' c' B W ((hW.cell (p:=⟨B,0,none⟩) hB).trans hc) (by have:=hW.size;omega)⟩
end Go.Proofs.YtbcoelggdikipaaGreat
namespace Go.Proofs.YtbcoelggdikipaaGreat
open Go.RowKit Go.Sort
def toBy (s:ByteArray):List UInt8:=s.data.toList
def ofBy (l:List UInt8):ByteArray:=⟨l.toArray⟩
theorem qVp (s:ByteArray):ofBy (toBy s)=s:=rfl
theorem qQi (l:List UInt8):toBy (ofBy l)=l:=rfl
theorem qVq (ds:List (List UInt8)):(ds.map ofBy).map toBy=ds:=by
 rw[List.map_map]
 conv=>rhs;rw[←List.map_id ds]
 rfl
def srtL (ds:List ByteArray):List ByteArray:=((ds.map toBy).mergeSort fun x y=>decide (x<=y)).map ofBy
def cmpL (ds:List ByteArray):List ByteArray:=(Lib.compact (ds.map toBy)).map ofBy
theorem qYc {α:Type}(f:α->Value)(l:List α):(l.map fun x=>[f x]).flatten=l.map f:=by
 induction l with
 |nil=>rfl
 |cons x l ih=>simp[ih]
theorem qYd {w:World}{base:Nat}{e:TypeId}{v:Value}{ds:List ByteArray}(h:OwnP w base e 1 StE v ds):(v=.slice none 0 0/\ds=[]) ∨
  ∃ b cap cur,v=.slice (some ⟨b,0,none⟩) ds.length cap/\base<=b/\w.heap[b]?=some (.cells cur e (0,0))/\ds.length<=cap/\cap<=maxLen/\cur.size=cap*1/\cur.toList.take (ds.map toBy).length=(ds.map toBy).map encStr/\∀ x∈ds,x.size<=Big:=by
 obtain⟨css,h1,h2,h3⟩:=h
 rcases h3 with⟨rfl,hn⟩|⟨b,cap,cur,rfl,hb,hg,hnc,hm,hcs,ht⟩
 ·exact .inl ⟨rfl,List.eq_nil_of_length_eq_zero hn⟩
 ·refine .inr ⟨b,cap,cur,rfl,hb,hg,hnc,hm,hcs,?_,fun x hx=>?_⟩
  ·have hcss:css=ds.map fun x=>[Value.string x]:=by
    apply List.ext_getElem?
    intro j
    by_cases hj:j<ds.length
    ·obtain⟨cs,hcs,⟨hcv,_⟩,_⟩:=h1.2 j ds[j] (List.getElem?_eq_getElem hj)
     rw[hcs,List.getElem?_map,List.getElem?_eq_getElem hj,hcv];rfl
    ·rw[List.getElem?_eq_none (by rw[h1.1];omega),List.getElem?_eq_none (by simp;omega)]
   rw[Nat.mul_one,hcss,qYc]at ht
   rw[List.length_map,ht,List.map_map]
   rfl
  ·obtain⟨j,hj⟩:=List.getElem?_of_mem hx
   obtain⟨cs,_,⟨_,hr⟩,_⟩:=h1.2 j x hj
   exact hr
theorem zZu {w:World}{base:Nat}{e:TypeId}{v:Value}{ts:List (List UInt8)}(h:w.ownsRow base e 1 v ts.length (ts.map encStr))(hs:∀ x∈ts,(ofBy x).size<=Big):OwnP w base e 1 StE v (ts.map ofBy):=by
 refine⟨ts.map fun l=>[encStr l],⟨by simp,fun j x hx=>?_⟩,?_⟩
 ·rw[List.getElem?_map]at hx
  obtain⟨y,hy,rfl⟩:=Option.map_eq_some_iff.1 hx
  exact⟨[encStr y],by rw[List.getElem?_map,hy];rfl,⟨rfl,hs y (List.mem_of_getElem? hy)⟩,rfl⟩
 ·rw[qYc,List.length_map];exact h
theorem Xc (ds:List ByteArray)(v:Value)(w:World)(base:Nat)(h:OwnP w base 9 1 StE v ds)(hl:ds.length<=900000)(hbase:base<=w.heap.size) :
  Calls Tryz.prog 129 #[v] w fun e w'=>e=.returned (.tuple #[])/\OwnP w' base 9 1 StE v (srtL ds)/\Below base w w':=by
 rcases qYd h with⟨rfl,rfl⟩|⟨b,cap,cur,rfl,hb,hg,hnc,hm,hcs,ht,hz⟩
 ·refine (Any.slices_Sort_string_none Tryz.sortStr none 0 w).mono ?_
  rintro e w' ⟨rfl,rfl⟩
  exact⟨rfl,by simpa[srtL] using OwnP.nil,Below.refl _ _⟩
 ·have hlt:b<w.heap.size:=(Array.getElem?_eq_some_iff.1 hg).1
  have hH:Holds encStr w b 0 (ds.map toBy).toArray:=holds_of_block hg ht
  have hcon:=Any.slices_Sort_string Tryz.sortStr b 0 cap (ds.map toBy) w hH hlt (by rw[List.length_map];omega)
  rw[List.length_map]at hcon
  refine Calls.mono hcon ?_
  rintro e w' ⟨rfl,n,os,rfl⟩
  have hp:((ds.map toBy).mergeSort fun x y=>decide (x<=y)).Perm (ds.map toBy):=List.mergeSort_perm _ _
  have hrow:=ownsRow_sorted (n:=n) (os:=os) (ss:=ds.map toBy) (ts:=(ds.map toBy).mergeSort fun x y=>decide (x<=y)) hp.length_eq hb hg (by rw[List.length_map];exact hnc) hm hcs
  rw[←hp.length_eq]at hrow
  refine⟨rfl,?_,(Below.refl base w).grown (grownBy_sorted _) hbase (fun g hg=>by cases hg;exact hb)⟩
  have hlen:((ds.map toBy).mergeSort fun x y=>decide (x<=y)).length=ds.length:=by rw[hp.length_eq,List.length_map]
  have:=zZu hrow (fun x hx=>by
   obtain⟨y,hy,rfl⟩:=List.mem_map.1 (hp.subset hx)
   exact hz y hy)
  rw[hlen]at this
  exact this
theorem Yb (ds:List ByteArray)(v:Value)(w:World)(base:Nat)(h:OwnP w base 9 1 StE v ds)(hl:ds.length<=900000)(hbase:base<=w.heap.size) :
  Calls Tryz.prog 130 #[v] w fun e w'=>∃ v',e=.returned v'/\OwnP w' base 9 1 StE v' (cmpL ds)/\Below base w w':=by
 rcases qYd h with⟨rfl,rfl⟩|⟨b,cap,cur,rfl,hb,hg,hnc,hm,hcs,ht,hz⟩
 ·refine (Any.slices_Compact_string_empty Tryz.compactStr none 0 w).mono ?_
  rintro e w' ⟨rfl,rfl⟩
  exact⟨_,rfl,by simpa[cmpL,Lib.compact,Lib.compactUpTo] using OwnP.nil,Below.refl _ _⟩
 ·have hlt:b<w.heap.size:=(Array.getElem?_eq_some_iff.1 hg).1
  have hH:Holds encStr w b 0 (ds.map toBy).toArray:=holds_of_block hg ht
  have hcon:=Any.slices_Compact_string Tryz.compactStr b 0 cap (ds.map toBy) w hH (by rw[List.length_map];omega) (by rw[List.length_map];exact hnc)
  rw[List.length_map]at hcon
  refine Calls.mono hcon ?_
  rintro e w' ⟨rfl,n,rfl⟩
  have hcl:=Lib.compact_length_le (ds.map toBy)
  rw[List.length_map]at hcl
  have hm2:∀ x∈Lib.compact (ds.map toBy),x∈ds.map toBy:=fun x hx=>by
   unfold Lib.compact Lib.compactUpTo at hx
   obtain⟨j,hj,rfl⟩:=List.mem_map.1 hx
   have hj':j<(ds.map toBy).length:=List.mem_range.1 (List.mem_filter.1 hj).1
   rw[getElem!_pos _ j (by simpa using hj')]
   simpa using List.getElem_mem hj'
  have hcm:cmpL ds=(Lib.compact (ds.map toBy)).map ofBy:=rfl
  rw[hcm]
  generalize Lib.compact (ds.map toBy)=ts at hcl hm2 ⊢
  refine⟨_,rfl,?_,?_⟩
  ·have hF:(ts++List.replicate (ds.length-ts.length) []).length=ds.length:=by simp;omega
   have htk:=take_putCells cur (ts++List.replicate (ds.length-ts.length) []) (by rw[hF,hcs];omega)
   have hheap:(putRow encStr (Sort.ahead w n) b 0 (ts++List.replicate (ds.length-ts.length) []).toArray).heap[b]?=some (.cells (putCells encStr 0 (ts++List.replicate (ds.length-ts.length) []).toArray cur) 9 (0,0)):=by
    simp[putRow,mapBlock,Sort.ahead,Array.getElem?_modify,hg,onCells]
   refine zZu (v:=.slice (some ⟨b,0,none⟩) ts.length cap) ⟨by simp,.inr ⟨b,cap,_,rfl,hb,hheap,by omega,hm,by simp[putCells,hcs],?_⟩⟩ (fun x hx=>by
    obtain⟨y,hy,rfl⟩:=List.mem_map.1 (hm2 x hx)
    exact hz y hy)
   have:=congrArg (List.take ts.length) htk
   rw[List.take_take,hF,Nat.min_eq_left hcl,←List.map_take,List.take_left]at this
   rw[Nat.mul_one];exact this
  ·refine (Below.refl base w).grown (w':=putRow encStr (Sort.ahead w n) b 0 (ts++List.replicate (ds.length-ts.length) []).toArray) (row:=some b) ⟨rfl,rfl,rfl,by simp,fun k hk hne=>?_⟩ hbase (fun g hg=>by cases hg;exact hb)
   have:b≠k:=fun e=>hne (by rw[e])
   simp[putRow,mapBlock,Sort.ahead,Array.getElem?_modify,this]
end Go.Proofs.YtbcoelggdikipaaGreat
namespace Go.Proofs.YtbcoelggdikipaaGreat
open Go.RowKit
def txtL (t:Tr):List ByteArray:=t.es.map (·.s)
def Z2 (t:Tr):List ByteArray:=cmpL (srtL (if t.right 5 then txtL t else []))
theorem Jw (l:List ByteArray):(srtL l).length=l.length:=by unfold srtL;rw[List.length_map,(List.mergeSort_perm _ _).length_eq,List.length_map]
theorem qVs (t:Tr)(w:World)(ve vk:Value)(h:t.rd w w.heap.size ve vk)(hN:t.es.length<=900000) :
  Calls Tryz.prog 88 #[.agg #[ve,vk]] w (RetO w 9 1 (fun _=>StE) (Z2 t)):=by
 have HC:Hid (∀ w',Below w.heap.size w w'->t.rd w' w'.heap.size ve vk):=fun w' hb=>Qi hb hb.size _ _ _ h
 have HK0:Hid (Z2 t=cmpL (srtL (if t.right 5 then t.es.map (·.s) else []))):=rfl
 obtain⟨es,ks⟩:=t
 rw[QA]at h
 obtain⟨⟨A,m,rfl,c1,c2,c3⟩,⟨A0,n0,rfl,d1,d2,d3⟩⟩:=h
 unfold Big at c2 d2
 simp only[Tr.es]at hN HK0 ⊢
 have hb0:Below w.heap.size w (w.alloc (.cells #[.slice A es.length m,.slice A0 ks.length n0] 25)):=(Below.refl _ w).alloc (Nat.le_refl _) _
 go_enter Tryz.func88,Tryz.ntmps88
 go_wp2_with fail
 refine (QG _ _ _ _ (HC.out _ hb0)).mono ?_
 rintro e w1 ⟨rfl,hb1⟩
 have hs1:=hb1.size
 simp only[World.size_alloc]at hs1
 have hB1:Below w.heap.size w w1:=hb0.trans (hb1.mono (by simp))
 have b0:w1.cell? ⟨w.heap.size,0,none⟩=some (.slice A es.length m):=by rw[hb1.cell (p:=⟨w.heap.size,0,none⟩) (by simp)];simp
 cases hr:(Tr.mk es ks).right 5
 ·have HK1:Hid (Z2 (.mk es ks)=cmpL (srtL [])):=by unfold Hid;rw[HK0.out,hr];rfl
  obtain⟨L,hL⟩:∃ L:List ByteArray,L=[]:=⟨_,rfl⟩
  have HK:Hid (Z2 (.mk es ks)=cmpL (srtL L)):=by unfold Hid;rw[hL];exact HK1.out
  have hLl:L.length<=900000:=by rw[hL];simp
  obtain⟨wr,hwr⟩:∃ wr,wr=w1:=⟨_,rfl⟩
  subst hwr
  have hown:OwnP wr (w.heap.size+1) 9 1 StE (.slice none 0 0) L:=by rw[hL];exact OwnP.nil
  have hB0:=hB1
  clear hr hL
  go_wp2_with fail
  refine (Xc L _ wr (w.heap.size+1) hown hLl (by omega)).mono ?_
  rintro e w2 ⟨rfl,ho2,hb2⟩
  have hs2:=hb2.size
  have hll:=Jw L
  go_wp2_with fail
  refine (Yb (srtL L) _ w2 (w.heap.size+1) ho2 (by omega) (by omega)).mono ?_
  rintro e w3 ⟨v3,rfl,ho3,hb3⟩
  go_wp2_with fail
  go_ret
  exact⟨_,rfl,by rw[HK.out];exact ho3.mono (by omega),hB0.trans ((hb2.trans hb3).mono (by omega))⟩
 have HK1:Hid (Z2 (.mk es ks)=cmpL (srtL (es.map (·.s)))):=by unfold Hid;rw[HK0.out,hr];rfl
 clear hr d3 d2 d1
 go_wp2_with fail
 go_loopw [3,11] (fun v i wr=>∃ k:Nat,k<=es.length/\i=.int .i64 k/\OwnP wr (w.heap.size+1) 9 1 StE v ((es.take k).map (·.s))/\Below (w.heap.size+1) w1 wr) (fun _ i _=>es.length-(intOf i).toNat)
 case atStart=>exact⟨0,Nat.zero_le _,rfl,OwnP.nil,Below.refl _ _⟩
 case round=>
  obtain⟨k,hk,rfl,hown,hb⟩:=hrel
  have hsz:=hb.size
  have hB0:Below w.heap.size w wr:=hB1.trans (hb.mono (by omega))
  by_cases hlt:k<es.length
  ·obtain⟨x,hx⟩:∃ x,es[k]?=some x:=⟨_,List.getElem?_eq_getElem hlt⟩
   obtain⟨b,off,rfl,hbB,hc⟩:=c3 (by rintro rfl;simp at hlt)
   obtain⟨cs,⟨rfl,hok⟩,_,hu⟩:=hc k _ hx
   have e0:wr.cell? ⟨b,off+k*4,none⟩=some (.int .i64 x.dc):=(hB0.cell hbB).trans (hu 0 _ rfl)
   have e1:wr.cell? ⟨b,off+k*4+1,none⟩=some (.int .i64 x.n):=(hB0.cell hbB).trans (hu 1 _ rfl)
   have e2:wr.cell? ⟨b,off+k*4+2,none⟩=some (.string x.s):=(hB0.cell hbB).trans (hu 2 _ rfl)
   have e3:wr.cell? ⟨b,off+k*4+3,none⟩=some (.int .i64 x.v):=(hB0.cell hbB).trans (hu 3 _ rfl)
   have HX:Hid ((es.take (k+1)).map (·.s)=(es.take k).map (·.s)++[x.s]):=by unfold Hid;rw[List.take_add_one,hx];simp
   have HL:Hid (((es.take k).map (·.s)).length + [x.s].length<=Few):=by unfold Hid Few;simp;omega
   have HKY:Hid (StE x.s [.string x.s]):=⟨rfl,hok.s⟩
   clear hu hc c3 hx hb0 hb1 b0 hok
   go_wp2_with (at_builtin;go_loud ((with_reducible refine Qk rfl (.tmp 15) (.tmp 18) _ rfl eiStr (by decide) (by decide) (fun _ _ h=>StE.one h) rfl ((hown.alloc _).alloc _) rfl (SlP.oneN (x:=x.s) HKY.out rfl _ rfl) HL.out (by simp only[World.size_alloc];omega) ?_);intro v1 w2 hown1 hb2 _;have hb3:=(((Below.refl (w.heap.size+1) wr).alloc (by omega) _).alloc (by simp only[World.size_alloc];omega) _).trans hb2))
   go_roundw
   case rel=>exact⟨k+1,by omega,by go_num,by rw[HX.out];exact hown1,hb.trans hb3⟩
   case measure=>simp[intOf];omega
  ·obtain rfl:k=es.length:=by omega
   rw[List.take_of_length_le (Nat.le_refl _)]at hown
   have hLl:(es.map (·.s)).length<=900000:=by simp;omega
   have HK:=HK1
   clear HK1 HK0 c3
   generalize es.map (·.s)=L at *
   go_wp2_with fail
   refine (Xc L _ wr (w.heap.size+1) hown hLl (by omega)).mono ?_
   rintro e w2 ⟨rfl,ho2,hb2⟩
   have hs2:=hb2.size
   have hll:=Jw L
   go_wp2_with fail
   refine (Yb (srtL L) _ w2 (w.heap.size+1) ho2 (by omega) (by omega)).mono ?_
   rintro e w3 ⟨v3,rfl,ho3,hb3⟩
   go_wp2_with fail
   go_ret
   exact⟨_,rfl,by rw[HK.out];exact ho3.mono (by omega),hB0.trans ((hb2.trans hb3).mono (by omega))⟩
def okT:Option ByteArray->ByteArray->Bool
 |none,_=>true
 |some q,x=>ltS q x
def pickC (last b:Option ByteArray)(x:ByteArray):Bool:=okT last x&&(match b with|none=>true|some c=>ltS x c)
def pickS (last b:Option ByteArray)(x:ByteArray):Option ByteArray:=if pickC last b x then some x else b
def sdGo (l:List ByteArray):Nat->List ByteArray->List ByteArray
 |0,out=>out
 |n+1,out=>match l.foldl (pickS out.getLast?) none with|none=>out|some b=>sdGo l n (out++[b])
def sdL (l:List ByteArray):List ByteArray:=sdGo l (l.length+1) []
def ahT (l:List ByteArray)(last:Option ByteArray):Nat:=(l.filter fun x=>okT last x).length
theorem qYe (l:List ByteArray)(last:Option ByteArray):∀ (b:Option ByteArray),(∀ e,b=some e->okT last e=true)->∀ e,l.foldl (pickS last) b=some e->(b=some e∨e∈l)/\okT last e=true:=by
 induction l with
 |nil=>intro b hb e he;exact⟨.inl he,hb e he⟩
 |cons x l ih=>
  intro b hb e he
  rw[List.foldl_cons]at he
  by_cases hc:pickC last b x=true
  ·have e1:pickS last b x=some x:=by simp[pickS,hc]
   rw[e1]at he
   simp only[pickC,Bool.and_eq_true]at hc
   obtain⟨h1,h2⟩:=ih (some x) (fun e he=>by cases he;exact hc.1) e he
   refine⟨.inr ?_,h2⟩
   rcases h1 with h1|h1
   ·cases h1;simp
   ·exact List.mem_cons_of_mem _ h1
  ·have e1:pickS last b x=b:=by simp[pickS,hc]
   rw[e1]at he
   obtain⟨h1,h2⟩:=ih b hb e he
   refine⟨?_,h2⟩
   rcases h1 with h1|h1
   ·exact .inl h1
   ·exact .inr (List.mem_cons_of_mem _ h1)
theorem qYf (l:List ByteArray)(last:Option ByteArray):∀ (b:Option ByteArray),(∀ c,b=some c->∃ e,l.foldl (pickS last) b=some e/\ltS c e=false)/\∀ x∈l,okT last x=true->∃ e,l.foldl (pickS last) b=some e/\ltS x e=false:=by
 induction l with
 |nil=>intro b;exact⟨fun c h=>⟨c,h,Qx _⟩,fun _ h=>by cases h⟩
 |cons y l ih=>
  intro b
  rw[List.foldl_cons]
  obtain⟨i1,i2⟩:=ih (pickS last b y)
  refine⟨fun c hc=>?_,fun x hx h2=>?_⟩
  ·subst hc
   by_cases hs:pickC last (some c) y=true
   ·obtain⟨e,he,hle⟩:=i1 y (by simp[pickS,hs])
    refine⟨e,he,?_⟩
    simp only[pickC,Bool.and_eq_true]at hs
    cases hce:ltS c e
    ·rfl
    ·rw[QF hs.2 hce]at hle;cases hle
   ·exact i1 c (by simp[pickS,hs])
  ·rcases List.mem_cons.1 hx with rfl|hx
   ·cases b with
    |none=>
     have hs:pickC last none x=true:=by simp[pickC,h2]
     exact i1 x (by simp[pickS,hs])
    |some c=>
     by_cases hs:pickC last (some c) x=true
     ·exact i1 x (by simp[pickS,hs])
     ·obtain⟨e,he,hle⟩:=i1 c (by simp[pickS,hs])
      refine⟨e,he,?_⟩
      have hxc:ltS x c=false:=by
       cases hxc:ltS x c
       ·rfl
       ·exact absurd (by simp[pickC,h2,hxc]) hs
      cases hxe:ltS x e
      ·rfl
      ·cases hec:ltS e c
       ·have:=ZI hec hle;rw[this]at hxe;rw[hxe]at hxc;cases hxc
       ·rw[QF hxe hec]at hxc;cases hxc
   ·exact i2 x hx h2
theorem qVw {last:Option ByteArray}{a b:ByteArray}(h:okT last a=true)(k:ltS a b=true):okT last b=true:=by
 cases last with
 |none=>rfl
 |some q=>exact QF h k
theorem zYq {l:List ByteArray}{last:Option ByteArray}{e:ByteArray}(h:l.foldl (pickS last) none=some e):ahT l (some e)<ahT l last:=by
 obtain⟨h1,h2⟩:=qYe l last none (fun _ h=>by cases h) e h
 rcases h1 with h1|h1
 ·cases h1
 ·exact Xk h1 (fun y hy=>qVw h2 hy) h2 (Qx _)
theorem zYr (l:List ByteArray)(last:Option ByteArray):ahT l last<=l.length:=List.length_filter_le _ _
theorem qQj (l:List ByteArray):∀ (n:Nat) (out:List ByteArray),ahT l out.getLast? < n->(out.Pairwise fun a b=>ltS a b=true)->(∀ e∈out,e∈l)->(∀ x∈l,okT out.getLast? x=false->x∈out) ->
  ((sdGo l n out).Pairwise fun a b=>ltS a b=true)/\(∀ e∈sdGo l n out,e∈l)/\∀ x∈l,x∈sdGo l n out
 |0,_,h,_,_,_=>absurd h (Nat.not_lt_zero _)
 |n+1,out,h,h1,h2,h3=>by
  rw[sdGo]
  cases hb:l.foldl (pickS out.getLast?) none with
  |none=>
   refine⟨h1,h2,fun x hx=>?_⟩
   cases ho:okT out.getLast? x
   ·exact h3 x hx ho
   ·obtain⟨e,he,_⟩:=(qYf l out.getLast? none).2 x hx ho
    rw[hb]at he;cases he
  |some e=>
   obtain⟨hm,hok⟩:=qYe l out.getLast? none (fun _ h=>by cases h) e hb
   have hel:e∈l:=by
    rcases hm with hm|hm
    ·cases hm
    ·exact hm
   have hle:(out++[e]).getLast?=some e:=by simp
   refine qQj l n (out++[e]) ?_ ?_ ?_ ?_
   ·rw[hle];have:=zYq hb;omega
   ·rw[List.pairwise_append]
    refine⟨h1,List.pairwise_singleton _ _,fun a ha b hb'=>?_⟩
    rw[List.mem_singleton]at hb';subst hb'
    rcases List.eq_nil_or_concat out with rfl|⟨out',z,rfl⟩
    ·cases ha
    ·rw[List.concat_eq_append]at *
     rw[List.getLast?_append]at hok
     have hz:ltS z b=true:=hok
     rcases List.mem_append.1 ha with ha|ha
     ·exact QF ((List.pairwise_append.1 h1).2.2 a ha z (by simp)) hz
     ·rw[List.mem_singleton]at ha;subst ha;exact hz
   ·intro a ha
    rcases List.mem_append.1 ha with ha|ha
    ·exact h2 a ha
    ·rw[List.mem_singleton]at ha;subst ha;exact hel
   ·intro x hx ho
    rw[hle]at ho
    have ho:ltS e x=false:=ho
    cases ho':okT out.getLast? x
    ·exact List.mem_append_left _ (h3 x hx ho')
    ·obtain⟨e',he',hmn⟩:=(qYf l out.getLast? none).2 x hx ho'
     rw[hb]at he';cases he'
     rw[ZI ho hmn];simp
theorem VA (l:List ByteArray):((sdL l).Pairwise fun a b=>ltS a b=true)/\∀ x,x∈sdL l↔x∈l:=by
 obtain⟨h1,h2,h3⟩:=qQj l (l.length+1) [] (by have:=zYr l ([]:List ByteArray).getLast?;omega) .nil (fun _ h=>by cases h) (fun x _ h=>by simp[okT]at h)
 exact⟨h1,fun x=>⟨h2 x,h3 x⟩⟩
theorem zYs (a b:ByteArray):ltS a b=decide (toBy a<toBy b):=by
 unfold ltS toBy
 rw[bytesLess_eq,ByteArray.toList_eq,ByteArray.toList_eq]
theorem Ke {zs:List (List UInt8)}(x:List UInt8):x∈Lib.compact zs↔x∈zs:=by
 unfold Lib.compact Lib.compactUpTo
 rw[List.mem_map]
 constructor
 ·rintro⟨j,hj,rfl⟩
  have hj':j<zs.length:=List.mem_range.1 (List.mem_filter.1 hj).1
  rw[getElem!_pos _ j (by simpa using hj')]
  simp
 ·intro hx
  obtain⟨i,hi,rfl⟩:=List.getElem_of_mem hx
  have key:∀ i (hi:i<zs.length),∃ j,j∈(List.range zs.length).filter (Lib.keeps zs.toArray)/\zs.toArray[j]! = zs[i]:=by
   intro i
   induction i using Nat.strongRecOn with
   |ind i ih=>
    intro hi
    have hg:zs.toArray[i]! = zs[i]:=by rw[getElem!_pos _ i (by simpa using hi)];simp
    by_cases hk:Lib.keeps zs.toArray i=true
    ·exact⟨i,List.mem_filter.2 ⟨List.mem_range.2 hi,hk⟩,hg⟩
    ·unfold Lib.keeps at hk
     simp only[decide_eq_true_eq,not_or,ne_eq,Decidable.not_not]at hk
     obtain⟨j,hj,he⟩:=ih (i-1) (by omega) (by omega)
     refine⟨j,hj,?_⟩
     rw[he,←hg,hk.2,getElem!_pos _ (i-1) (by simp;omega)];simp
  obtain⟨j,hj,he⟩:=key i hi
  exact⟨j,hj,he⟩
theorem KF {zs:List (List UInt8)}(h:zs.Pairwise fun a b=>a<=b):(Lib.compact zs).Pairwise fun a b=>a<b:=by
 unfold Lib.compact Lib.compactUpTo
 rw[List.pairwise_map,List.pairwise_filter]
 have hr:=List.pairwise_lt_range (n:=zs.length)
 refine hr.imp_of_mem fun {i j} hi hj hij _ hk=>?_
 have hi':=List.mem_range.1 hi
 have hj':=List.mem_range.1 hj
 rw[List.pairwise_iff_getElem]at h
 unfold Lib.keeps at hk
 simp only[decide_eq_true_eq,ne_eq]at hk
 have hne:zs.toArray[j]!≠zs.toArray[j-1]!:=by
  rcases hk with hk|hk
  ·omega
  ·exact hk
 rw[getElem!_pos _ j (by simpa using hj'),getElem!_pos _ (j-1) (by simp;omega)]at hne
 rw[getElem!_pos _ i (by simpa using hi'),getElem!_pos _ j (by simpa using hj')]
 simp only[List.getElem_toArray]at hne ⊢
 have h1:zs[j-1]'(by omega)<=zs[j]:=h (j-1) j (by omega) hj' (by omega)
 have h2:zs[i]<=zs[j-1]'(by omega):=by
  by_cases he:i=j-1
  ·subst he;exact List.le_refl _
  ·exact h i (j-1) hi' (by omega) (by omega)
 have h3:zs[j-1]'(by omega)<zs[j]:=by
  rcases Decidable.em (zs[j-1]'(by omega)<zs[j]) with h4|h4
  ·exact h4
  ·exact absurd (List.le_antisymm (List.not_lt.1 h4) h1) hne
 rcases Decidable.em (zs[i]<zs[j]) with h4|h4
 ·exact h4
 ·exact absurd h3 (List.not_lt.2 (List.le_trans (List.not_lt.1 h4) h2))
theorem sd_eq (l:List ByteArray):cmpL (srtL l)=sdL l:=by
 obtain⟨h1,h2⟩:=VA l
 have hp:((l.map toBy).mergeSort fun x y=>decide (x<=y)).Perm (l.map toBy):=List.mergeSort_perm _ _
 have hs:((l.map toBy).mergeSort fun x y=>decide (x<=y)).Pairwise fun a b=>a<=b:=by
  have:=List.pairwise_mergeSort (le:=fun x y:List UInt8=>decide (x<=y)) (fun a b c h k=>by simp only[decide_eq_true_eq]at *;exact List.le_trans h k) (fun a b=>by
   simp only[Bool.or_eq_true,decide_eq_true_eq];exact List.le_total a b) (l.map toBy)
  exact this.imp fun h=>by simpa using h
 have hc:cmpL (srtL l)=(Lib.compact ((l.map toBy).mergeSort fun x y=>decide (x<=y))).map ofBy:=by
  unfold cmpL srtL;rw[qVq]
 rw[hc]
 refine Yg (r:=ltS) Qx (fun _ _ _=>QF) ?_ h1 fun x=>?_
 ·rw[List.pairwise_map]
  exact (KF hs).imp fun h=>by rw[zYs,qQi,qQi];simpa using h
 ·rw[h2,List.mem_map]
  constructor
  ·rintro⟨y,hy,rfl⟩
   obtain⟨z,hz,rfl⟩:=List.mem_map.1 (hp.subset ((Ke y).1 hy))
   exact hz
  ·intro hx
   exact⟨toBy x,(Ke _).2 (hp.symm.subset (List.mem_map.2 ⟨x,hx,rfl⟩)),rfl⟩
end Go.Proofs.YtbcoelggdikipaaGreat
namespace Go.Proofs
open Go.Shelf
def Tryz.sortRun_ren:Go.Shelf.Ren:=⟨fun|6=>183|15=>167|14=>209|28=>200|29=>201|20=>218|21=>219|22=>220|23=>221|24=>222|25=>223|26=>224|27=>225|46=>227|47=>212|48=>213|49=>228|50=>229|57=>230|n=>n,fun|22=>160|24=>167|25=>211|3=>3|39=>193|0=>0|53=>226|55=>228|4=>4|46=>219|45=>218|50=>204|5=>5|9=>9|66=>236|70=>240|76=>249|77=>250|n=>n,fun|n=>n⟩
theorem Tryz.sortRun:Go.Proofs.SlLaysF0.n6 Tryz.prog Tryz.sortRun_ren:={
 mixed:=by kernel_rfl
 f6:=⟨Tryz.f183.name,by decide,Tryz.func183.trans (congrArg some (by kernel_rfl))⟩
 f14:=⟨Tryz.f209.name,by decide,Tryz.func209.trans (congrArg some (by kernel_rfl))⟩
 f15:=Tryz.func167.trans (congrArg some (by kernel_rfl))
 f20:=⟨Tryz.f218.name,by decide,Tryz.func218.trans (congrArg some (by kernel_rfl))⟩
 f21:=⟨Tryz.f219.name,by decide,Tryz.func219.trans (congrArg some (by kernel_rfl))⟩
 f22:=⟨Tryz.f220.name,by decide,Tryz.func220.trans (congrArg some (by kernel_rfl))⟩
 f23:=⟨Tryz.f221.name,by decide,Tryz.func221.trans (congrArg some (by kernel_rfl))⟩
 f24:=⟨Tryz.f222.name,by decide,Tryz.func222.trans (congrArg some (by kernel_rfl))⟩
 f25:=⟨Tryz.f223.name,by decide,Tryz.func223.trans (congrArg some (by kernel_rfl))⟩
 f26:=⟨Tryz.f224.name,by decide,Tryz.func224.trans (congrArg some (by kernel_rfl))⟩
 f27:=⟨Tryz.f225.name,by decide,Tryz.func225.trans (congrArg some (by kernel_rfl))⟩
 f28:=Tryz.func200.trans (congrArg some (by kernel_rfl))
 f29:=Tryz.func201.trans (congrArg some (by kernel_rfl))
 f46:=⟨Tryz.f227.name,by decide,Tryz.func227.trans (congrArg some (by kernel_rfl))⟩
 f47:=Tryz.func212.trans (congrArg some (by kernel_rfl))
 f48:=Tryz.func213.trans (congrArg some (by kernel_rfl))
 f49:=⟨Tryz.f228.name,by decide,Tryz.func228.trans (congrArg some (by kernel_rfl))⟩
 f50:=⟨Tryz.f229.name,by decide,Tryz.func229.trans (congrArg some (by kernel_rfl))⟩
 f57:=⟨Tryz.f230.name,by decide,Tryz.func230.trans (congrArg some (by kernel_rfl))⟩
 t0:=Tryz.underlying0
 a0:=Tryz.isAgg0
 z0:=Tryz.sizeOf0
 v0:=Tryz.zeroValue0
 t3:=Tryz.underlying3
 a3:=Tryz.isAgg3
 z3:=Tryz.sizeOf3
 v3:=Tryz.zeroValue3
 t4:=Tryz.underlying4
 a4:=Tryz.isAgg4
 z4:=Tryz.sizeOf4
 v4:=Tryz.zeroValue4
 t5:=Tryz.underlying5
 a5:=Tryz.isAgg5
 z5:=Tryz.sizeOf5
 v5:=Tryz.zeroValue5
 t9:=Tryz.underlying9
 a9:=Tryz.isAgg9
 z9:=Tryz.sizeOf9
 v9:=Tryz.zeroValue9
 t22:=Tryz.underlying160
 a22:=Tryz.isAgg160
 z22:=Tryz.sizeOf160
 v22:=Tryz.zeroValue160
 t25:=Tryz.underlying211
 a25:=Tryz.isAgg211
 z25:=Tryz.sizeOf211
 v25:=Tryz.zeroValue211
 t39:=Tryz.underlying193
 a39:=Tryz.isAgg193
 z39:=Tryz.sizeOf193
 v39:=Tryz.zeroValue193
 t45:=Tryz.underlying218
 a45:=Tryz.isAgg218
 z45:=Tryz.sizeOf218
 v45:=Tryz.zeroValue218
 t46:=Tryz.underlying219
 a46:=Tryz.isAgg219
 z46:=Tryz.sizeOf219
 v46:=Tryz.zeroValue219
 t50:=Tryz.underlying204
 a50:=Tryz.isAgg204
 z50:=Tryz.sizeOf204
 v50:=Tryz.zeroValue204
 t53:=Tryz.underlying226
 a53:=Tryz.isAgg226
 z53:=Tryz.sizeOf226
 v53:=Tryz.zeroValue226
 t55:=Tryz.underlying228
 a55:=Tryz.isAgg228
 z55:=Tryz.sizeOf228
 v55:=Tryz.zeroValue228
 t66:=Tryz.underlying236
 a66:=Tryz.isAgg236
 z66:=Tryz.sizeOf236
 v66:=Tryz.zeroValue236
 t70:=Tryz.underlying240
 a70:=Tryz.isAgg240
 z70:=Tryz.sizeOf240
 v70:=Tryz.zeroValue240
 t76:=Tryz.underlying249
 a76:=Tryz.isAgg249
 z76:=Tryz.sizeOf249
 v76:=Tryz.zeroValue249
 t77:=Tryz.underlying250
 a77:=Tryz.isAgg250
 z77:=Tryz.sizeOf250
 v77:=Tryz.zeroValue250 }
end Go.Proofs
namespace Go.Proofs.YtbcoelggdikipaaGreat
open Go.RowKit Go.Sort
theorem qVd {w:World}{g n:Nat}{os:Array Obj}{cur:Array Value}{e:TypeId}{fr:Nat×Nat}(F:Array Value)(hb:w.heap[g]?=some (.cells cur e fr)) :
  (grow (putRow id (Sort.ahead w n) g 0 F) os).heap[g]?=some (.cells (putCells id 0 F cur) e fr):=by
 have hg:g<w.heap.size:=(Array.getElem?_eq_some_iff.1 hb).1
 rw[heap_grow_old _ _ (by simpa using hg)]
 simp[putRow,mapBlock,Sort.ahead,Array.getElem?_modify,hb,onCells]
theorem VU {w:World}{g n:Nat}{os:Array Obj}(F:Array Value):w.grownBy (grow (putRow id (Sort.ahead w n) g 0 F) os) (some g):=by
 refine⟨rfl,rfl,rfl,by simp,fun k hk hne=>?_⟩
 rw[heap_grow_old _ _ (by simpa using hk)]
 have:g≠k:=fun e=>hne (by rw[e])
 simp[putRow,mapBlock,Sort.ahead,Array.getElem?_modify,this]
def encR {α:Type}(en:α->Int×Int)(x:α):List Value:=[.int .i64 (en x).1,.int .i64 (en x).2]
theorem JY {α:Type}[Inhabited α](en:α->Int×Int)(l:List α)(j:Nat)(hj:j<l.length*2):(l.map (encR en)).flatten[j]?=some ((encR en l[j / 2]!)[j % 2]!):=by
 have hm:j % 2<2:=Nat.mod_lt _ (by omega)
 have hd:j=j / 2*2+j % 2:=by omega
 have hf:=Yx (sz:=2) (l.map (encR en)) (fun cs h=>by obtain⟨x,_,rfl⟩:=List.mem_map.1 h;rfl) (j / 2) (j % 2) hm
 rw[←hd]at hf
 have hlt:j / 2<l.length:=by omega
 rw[hf,List.getElem?_map,List.getElem?_eq_getElem hlt]
 simp only[Option.map_some,Option.bind_some]
 rw[getElem!_pos l (j / 2) hlt]
 rcases (show j % 2=0∨j % 2=1 by omega) with e|e<;>rw[e]<;>rfl
theorem JZ {α:Type}[Inhabited α](en:α->Int×Int)(cf:α->α->Int)(hO:SWO (ltOf cf))(g:Nat)(eg:∀ args w,(callFunc g args).run Tryz.prog w=.ok (.enter g args) w)
  (hc:∀ (x y:α) (W:World),Calls Tryz.prog g #[.agg #[.int .i64 (en x).1,.int .i64 (en x).2],.agg #[.int .i64 (en y).1,.int .i64 (en y).2]] W fun e w'=>e=.returned (.int .i64 (cf x y))/\∃ q os',w'=grow (W.drewN q) os')
  (ds:List α) (v:Value) (w:World) (base:Nat) (h:OwnP w base 167 2 RuE v (ds.map en)) (hl:ds.length<=900000) (hbase:base<=w.heap.size) :
  Calls Tryz.prog 183 #[v,.func (.func g) #[] #[]] w fun e w'=>e=.returned (.tuple #[]) /\
   ∃ ts:List α,ts.Perm ds/\ts.Pairwise (fun a b=>0<=cf b a)/\OwnP w' base 167 2 RuE v (ts.map en)/\Below base w w':=by
 obtain⟨css,h1,h2,h3⟩:=h
 rcases h3 with⟨rfl,hn⟩|⟨b,cap,cur,rfl,hb,hg,hnc,hm,hcs,ht⟩
 ·obtain rfl:ds=[]:=by simpa using hn
  refine (AnyF.slices_SortFunc_none Tryz.sortRun none 0 (.func (.func g) #[] #[]) w).mono ?_
  rintro e w' ⟨rfl,rfl⟩
  exact⟨rfl,[],List.Perm.refl _,List.Pairwise.nil,OwnP.nil,Below.refl _ _⟩
 ·have hlt:b<w.heap.size:=(Array.getElem?_eq_some_iff.1 hg).1
  have hlen:(ds.map en).length=ds.length:=List.length_map ..
  rw[hlen]at h2 hnc ht ⊢
  have hcss:css=ds.map (encR en):=by
   apply List.ext_getElem?
   intro j
   by_cases hj:j<ds.length
   ·obtain⟨cs,hcs,⟨hcv,_⟩,_⟩:=h1.2 j (en ds[j]) (by rw[List.getElem?_map,List.getElem?_eq_getElem hj];rfl)
    rw[hcs,List.getElem?_map,List.getElem?_eq_getElem hj,hcv];rfl
   ·rw[List.getElem?_eq_none (by rw[h1.1,hlen];omega),List.getElem?_eq_none (by simp;omega)]
  have hok:∀ x∈ds,I64 (en x).1/\I64 (en x).2:=fun x hx=>by
   obtain⟨j,hj⟩:=List.getElem?_of_mem hx
   obtain⟨cs,_,⟨_,hr⟩,_⟩:=h1.2 j (en x) (by rw[List.getElem?_map,hj];rfl)
   exact hr
  have hH:HoldsK (encR en) 2 w b 0 ds.toArray:=by
   intro j hj
   have hj:j<ds.length*2:=by simpa using hj
   refine⟨?_,by simp[World.frozen?,hg]⟩
   rw[get_flatK _ _ _ _ (by simpa using hj),Nat.zero_add,show (w.cell? ⟨b,j,none⟩)=cur[j]? from by simp[World.cell?,hg]]
   have hf:=JY en ds j hj
   rw[←hcss,←ht,List.getElem?_take_of_lt hj,Array.getElem?_toList]at hf
   rw[hf];simp
  have hcon:=AnyQ.slices_SortFunc Tryz.sortRun 2 Tryz.isAgg167 Tryz.sizeOf167 (encR en) (fun _=>rfl) (fun x u hu=>by simp[encR]at hu;rcases hu with rfl|rfl<;>rfl) cf hO g #[] b 0 cap ds.toArray w eg
   (fun m os dk _ x y=>hc x y _) hH hlt (by simp;omega)
  have hcon':Calls Tryz.prog 183 #[.slice (some ⟨b,0,none⟩) ds.length cap,.func (.func g) #[] #[]] w _:=hcon
  refine hcon'.mono ?_
  rintro e w' ⟨rfl,d',n,os,hp,hs,rfl⟩
  have hsz:d'.size=ds.length:=by simpa using hp.1
  have hperm:d'.toList.Perm ds:=by
   have:=hp.2.2
   rw[show ds.toArray.extract 0 ds.toArray.size=ds.toArray by simp,show d'.extract 0 ds.toArray.size=d' by rw[show ds.toArray.size=d'.size by simp[hsz]];simp]at this
   simpa using this
  refine⟨rfl,d'.toList,hperm,?_,⟨d'.toList.map (encR en),⟨by simp,fun j x hx=>?_⟩,?_⟩,?_⟩
  ·rw[List.pairwise_iff_getElem]
   intro i j hi hj hij
   have hj':j<d'.size:=by simpa using hj
   have h4:=hs i j (Nat.zero_le _) hij (by simp;omega)
   rw[getElem!_pos d' i (by omega),getElem!_pos d' j hj']at h4
   simp only[ltOf,decide_eq_false_iff_not,Int.not_lt]at h4
   simpa using h4
  ·rw[List.getElem?_map]at hx
   obtain⟨y,hy,rfl⟩:=Option.map_eq_some_iff.1 hx
   refine⟨encR en y,by rw[List.getElem?_map,hy];rfl,⟨rfl,hok y (hperm.subset (List.mem_of_getElem? hy))⟩,rfl⟩
  ·have hlm:(d'.toList.map en).length=ds.length:=by simp[hsz]
   rw[hlm]
   refine⟨by rw[Xh (sz:=2) _ (fun cs h=>by obtain⟨x,_,rfl⟩:=List.mem_map.1 h;rfl)];simp[hsz],.inr ⟨b,cap,_,rfl,hb,qVd _ hg,hnc,hm,by simp[putCells,hcs],?_⟩⟩
   apply List.ext_getElem?
   intro j
   by_cases hj:j<ds.length*2
   ·have hjc:j<cur.size:=by rw[hcs];have:=Nat.mul_le_mul_right 2 hnc;omega
    rw[List.getElem?_take_of_lt hj,Array.getElem?_toList,JY en d'.toList j (by simp[hsz];omega)]
    simp only[putCells,Array.getElem?_mapIdx,Array.getElem?_eq_getElem hjc,Option.map_some]
    rw[if_pos ⟨Nat.zero_le _,by simp[hsz];omega⟩,Nat.sub_zero,id,get_flatK _ _ _ _ (by rw[hsz];exact hj)]
    simp only[Array.getElem!_toList]
   ·rw[List.getElem?_take_eq_none (by omega),List.getElem?_eq_none (by rw[Xh (sz:=2) _ (fun cs h=>by obtain⟨x,_,rfl⟩:=List.mem_map.1 h;rfl)];simp[hsz];omega)]
  ·exact (Below.refl base w).grown (VU _) hbase (fun g hg=>by cases hg;exact hb)
theorem Jv (x y:Int):ltOf cmpI x y=decide (x<y):=by
 unfold ltOf cmpI
 by_cases h1:x<y
 ·simp[h1]
 ·by_cases h2:y<x<;>simp[h1,h2]
theorem swoI:SWO (ltOf cmpI) where
 irrefl x:=by rw[Jv];simp
 trans x y z h1 h2:=by rw[Jv]at *;simp at *;omega
 ntrans x y z h1 h2:=by rw[Jv]at *;simp at *;omega
theorem J5 (a b:Int):0<=cmpI b a↔a<=b:=by
 unfold cmpI;split<;>(try split)<;>omega
theorem qVg (x y:Int×Int)(W:World):Calls Tryz.prog 188 #[.agg #[.int .i64 x.1,.int .i64 x.2],.agg #[.int .i64 y.1,.int .i64 y.2]] W fun e w'=>e=.returned (.int .i64 (cmpI x.1 y.1))/\∃ q os',w'=grow (W.drewN q) os':=by
 go_enter Tryz.func188,Tryz.ntmps188
 go_wp2_with (go_at_call 185;refine (Xi _ _ _).mono ?_;rintro e w' ⟨rfl,rfl⟩)
 go_ret
 exact⟨rfl,0,_,by rw[alloc_eq_grow,alloc_eq_grow,grow_grow];rfl⟩
def dup (n:Int):Int×Int:=(n,n)
theorem zZ8 {ns ts:List Int}(hn:∀ x∈ns,numB x=true)(hp:ts.Perm ns)(hs:ts.Pairwise fun a b=>a<=b):joinL (ts.map dup)=ofL ns:=by
 have hn':∀ x∈ns,1<=x/\x<=1099511627776:=fun x hx=>by simpa[numB] using hn x hx
 obtain⟨a1,a2⟩:=ZN hn'
 obtain⟨b1,b2⟩:=J3 (l:=ts.map dup) (fun r hr=>by
  obtain⟨x,hx,rfl⟩:=List.mem_map.1 hr
  have:=hn' x (hp.subset hx)
  exact⟨this.1,Int.le_refl _,this.2⟩) (List.pairwise_map.2 hs)
 refine YF _ _ none none b1 a1 fun n=>?_
 rw[b2,Bool.eq_iff_iff,a2]
 unfold hasL
 rw[List.any_eq_true]
 constructor
 ·rintro⟨r,hr,h⟩
  obtain⟨x,hx,rfl⟩:=List.mem_map.1 hr
  have h2:x<=n/\n<=x:=by
   have h3:(decide (x<=n)&&decide (n<=x))=true:=h
   simpa using h3
  obtain rfl:n=x:=by omega
  exact hp.subset hx
 ·intro h
  exact⟨dup n,List.mem_map.2 ⟨n,hp.symm.subset h,rfl⟩,by simp[dup,inR]⟩
theorem zZ9 (ns:List Int)(v:Value)(w:World)(h:SlP w w.heap.size 1 InE v ns)(hn:∀ x∈ns,numB x=true)(hN:ns.length<=400000) :
  Calls Tryz.prog 158 #[v] w fun e w'=>∃ v',e=.returned (.tuple #[v',.int .i64 0])/\OwnP w' w.heap.size 167 2 RuE v' (ofL ns)/\Below w.heap.size w w':=by
 obtain⟨A,c,rfl,b1,b2,b3⟩:=h
 unfold Big at b2
 go_enter Tryz.func158,Tryz.ntmps158
 go_wp2_with fail
 go_loopw [4,9] (fun v i wr=>∃ k:Nat,k<=ns.length/\i=.int .i64 k/\OwnP wr w.heap.size 167 2 RuE v ((ns.take k).map dup)/\Below w.heap.size w wr) (fun _ i _=>ns.length-(intOf i).toNat)
 case atStart=>exact⟨0,Nat.zero_le _,rfl,OwnP.nil,Below.refl _ _⟩
 case round=>
  obtain⟨k,hk,rfl,hown,hb⟩:=hrel
  have hsz:=hb.size
  by_cases hlt:k<ns.length
  ·obtain⟨x,hx⟩:∃ x,ns[k]?=some x:=⟨_,List.getElem?_eq_getElem hlt⟩
   obtain⟨b,off,rfl,hbB,hc⟩:=b3 (by rintro rfl;simp at hlt)
   obtain⟨cs,⟨rfl,hok⟩,_,hu⟩:=hc k _ hx
   have e0:wr.cell? ⟨b,off+k,none⟩=some (.int .i64 x):=(hb.cell hbB).trans (by simpa using hu 0 _ rfl)
   have HB:=hid (hn x (List.mem_of_getElem? hx))
   have HX:Hid ((ns.take (k+1)).map dup=(ns.take k).map dup++[dup x]):=by unfold Hid;rw[ZF hx,List.map_append];rfl
   have HRE:Hid (RuE (dup x) [.int .i64 x,.int .i64 x]):=⟨rfl,hok,hok⟩
   have HL:Hid (((ns.take k).map dup).length + [dup x].length<=Few):=by unfold Hid Few;simp;omega
   clear hu hx hc b3 hok
   go_wp2_with (first|(go_at_call 187;refine (Yo _ _).mono ?_;rw[HB.out];rintro e w' ⟨rfl,rfl⟩)|(at_builtin;with_reducible refine Qk rfl (.tmp 16) (.tmp 20) _ rfl eiRun (by decide) (by decide) (fun _ _ h=>h.one) rfl (hown.alloc _) rfl (SlP.one (x:=dup x) HRE.out rfl _ rfl) HL.out (by rw[World.size_alloc];omega) ?_;intro v1 w1 hown1 hb1 _))
   go_roundw
   case rel=>exact⟨k+1,by omega,by go_num,by rw[HX.out];exact hown1,hb.trans (((Below.refl _ _).alloc (by omega) _).trans hb1)⟩
   case measure=>simp[intOf];omega
  ·obtain rfl:k=ns.length:=by omega
   rw[List.take_of_length_le (Nat.le_refl _)]at hown
   have HC:Hid (∀ W base v,OwnP W base 167 2 RuE v (ns.map dup)->base<=W.heap.size->Calls Tryz.prog 183 #[v,.func (.func 188) #[] #[]] W fun e w'=>e=.returned (.tuple #[]) /\
    ∃ ts:List Int,ts.Perm ns/\ts.Pairwise (fun a b=>a<=b)/\OwnP w' base 167 2 RuE v (ts.map dup)/\Below base W w'):=fun W base v ho hbs=>
     (JZ dup cmpI swoI 188 (enters_of Tryz.func188 (by kernel_rfl) rfl) (fun x y W=>qVg (dup x) (dup y) W) ns v W base ho (by omega) hbs).mono fun e w' ⟨he,ts,h1,h2,h3,h4⟩=>
      ⟨he,ts,h1,h2.imp fun h=>(J5 _ _).1 h,h3,h4⟩
   have HN:=hid hn
   clear hn b3
   go_wp2_with fail
   refine (HC.out _ _ _ hown hsz).mono ?_
   rintro e w1 ⟨rfl,ts,hp,hs,ho1,hb1⟩
   have HJ:=hid (zZ8 HN.out hp hs)
   have hs1:=hb1.size
   have hlen:ts.length=ns.length:=hp.length_eq
   have hsl:=ho1.sl (by rw[List.length_map,hlen];unfold Big;omega)
   have hro:Zg (ts.map dup):=fun r hr=>by
    obtain⟨x,hx,rfl⟩:=List.mem_map.1 hr
    have:=HN.out x (hp.subset hx)
    simp[numB]at this
    simp[dup];omega
   have HRO:=hid hro
   have HL1:Hid ((ts.map dup).length<=900000):=by unfold Hid;rw[List.length_map,hlen];omega
   clear hp hs hro hlen ho1 hown
   go_wp2_with fail
   refine (J4 (ts.map dup) _ w1 hsl HL1.out HRO.out).mono ?_
   rintro e w2 ⟨v2,rfl,ho2,hb2⟩
   rw[HJ.out]at ho2
   go_wp2_with fail
   go_ret2
   exact⟨_,rfl,ho2.mono (by omega),(hb.trans hb1).trans (hb2.mono (by omega))⟩
end Go.Proofs.YtbcoelggdikipaaGreat
namespace Go.Proofs.YtbcoelggdikipaaGreat
open Go.RowKit
def OfA (l:List Dt)(w:World)(k:Nat)(wr:World):Prop:=
 ∃ vs:Nat->Value,Rows4 wr (w.heap.size+1) w.heap.size 183 2 1 InE vs (fun i=>numsL (l.take k) i)/\Below w.heap.size w wr
def OfB (l:List Dt)(w1:World)(k:Nat)(wr:World):Prop:=
 ∃ ps:Nat->Value,wr.heap[w1.heap.size]?=some (.cells #[ps 0,ps 1,ps 2,ps 3] 162 (0,0)) /\
  (∀ j,j<4->OwnP wr (w1.heap.size+1) 167 2 RuE (ps j) (if j<k then ofL (numsL l (j:Int)) else []))/\Below w1.heap.size w1 wr
theorem X9 (l:List Dt)(vl:Value)(w:World)(h:SlP w w.heap.size 2 DtE vl l)(hR:∀ d∈l,d.right=true)(hN:l.length<=100000) :
  Calls Tryz.prog 113 #[vl] w fun e w'=>∃ v,e=.returned (.tuple #[v,.int .i64 0])/\OwnP w' w.heap.size 45 3 SpE v (ctxOf l)/\Below w.heap.size w w':=by
 obtain⟨A,n,rfl,b1,b2,b3⟩:=h
 unfold Big at b2
 go_enter Tryz.func113,Tryz.ntmps113
 go_wp2_with fail
 go_loopw [12] (fun i wr=>∃ k:Nat,k<=l.length/\i=.int .i64 k/\OfA l w k wr) (fun i _=>l.length-(intOf i).toNat)
 case atStart=>exact⟨0,Nat.zero_le _,rfl,fun _=>.slice none 0 0,Rows4.start (Qd rfl) (by omega),(Below.refl _ w).alloc (Nat.le_refl _) _⟩
 case round=>
  obtain⟨k,hk,rfl,vs,hr4,hb⟩:=hrel
  have hsz:=hb.size
  have hsz2:w.heap.size<wr.heap.size:=(Array.getElem?_eq_some_iff.1 hr4.arr).1
  have hsz4:w.heap.size≠wr.heap.size:=by omega
  by_cases hlt:k<l.length
  ·obtain⟨⟨dc,num⟩,hx⟩:∃ x,l[k]?=some x:=⟨_,List.getElem?_eq_getElem hlt⟩
   obtain⟨b,off,rfl,hbB,hc⟩:=b3 (by rintro rfl;simp at hlt)
   obtain⟨cs,⟨rfl,hok⟩,_,hu⟩:=hc k _ hx
   have e0:wr.cell? ⟨b,off+k*2,none⟩=some (.int .i64 dc):=(hb.cell hbB).trans (hu 0 _ rfl)
   have e1:wr.cell? ⟨b,off+k*2+1,none⟩=some (.int .i64 num):=(hb.cell hbB).trans (hu 1 _ rfl)
   have hri:=hR _ (List.mem_of_getElem? hx)
   have hbd:(0<=dc/\dc<4)/\1<=num/\num<=1099511627776:=by simpa[Dt.right,and_assoc] using hri
   have HRI:=hid hri
   have HR4:=hid hr4
   obtain⟨d,rfl⟩:∃ d:Nat,dc=(d:Int):=⟨dc.toNat,by omega⟩
   have hd4:d<4:=by omega
   have hdi:(d:Int)<4:=by omega
   have HPD:Hid ((fun i:Nat=>numsL (l.take (k+1)) i)=fun i=>if i=d then numsL (l.take k) d++[num] else numsL (l.take k) i):=by
    unfold Hid;funext i
    rw[KJ hx]
    by_cases e:i=d
    ·subst e;rw[if_pos rfl,if_pos rfl]
    ·rw[if_neg e,if_neg (by show ¬(d:Int)=(i:Int);omega),List.append_nil]
   have HL:Hid ((numsL (l.take k) d).length + [num].length<=Few):=by have:=ZK (l.take k) d;rw[List.length_take]at this;unfold Hid Few;simp;omega
   have HRE:Hid (InE num [.int .i64 num]):=⟨rfl,hok.n⟩
   have hbp:wr.cell? ⟨w.heap.size,d,none⟩=some (vs d):=HR4.out.at hd4
   have HLT:=hid ((HR4.out.own d hd4).lt)
   clear hu hx hc b3 hok hr4 hri hR
   go_upto_region 7 with (go_at_call 64;refine (QB ⟨d,num⟩ _).mono ?_;rw[HRI.out];rintro e wd ⟨rfl,hbd'⟩;have hsd:=hbd'.size;simp only[World.size_alloc]at hsd)
   have HB1:Hid (Below wr.heap.size wr wd):=((Below.refl _ wr).alloc (Nat.le_refl _) _).trans (hbd'.mono (by simp))
   have hx0:wd.cell? ⟨wr.heap.size,0,none⟩=some (.int .i64 (d:Int)):=by rw[hbd'.cell (p:=⟨wr.heap.size,0,none⟩) (by simp)];simp
   have hx1:wd.cell? ⟨wr.heap.size,1,none⟩=some (.int .i64 num):=by rw[hbd'.cell (p:=⟨wr.heap.size,1,none⟩) (by simp)];simp
   have hxb:wd.heap[wr.heap.size]?=some (.cells #[.int .i64 (d:Int),.int .i64 num] 78 (0,0)):=(hbd'.block wr.heap.size (by simp)).trans (Qd rfl)
   have HXB:=hid hxb
   have hbp1:wd.cell? ⟨w.heap.size,d,none⟩=some (vs d):=(HB1.out.cell (p:=⟨w.heap.size,d,none⟩) hsz2).trans hbp
   have HR5:=hid (HR4.out.grow HB1.out)
   have hwd1:w.heap.size<wd.heap.size:=by omega
   have hwd2:w.heap.size≠wd.heap.size:=by omega
   have hwd3:wr.heap.size<wd.heap.size:=by omega
   have hwd4:wr.heap.size≠wd.heap.size:=by omega
   have HBW:=hid (hb.trans (HB1.out.mono hsz))
   clear hbp hxb hbd' e0 e1
   go_wp2_with fail
   refine ZP (S:=fun w'=>w'.cell? ⟨wr.heap.size,0,none⟩=some (.int .i64 (d:Int))/\w'.cell? ⟨wr.heap.size,1,none⟩=some (.int .i64 num)/\w'.cell? ⟨w.heap.size,d,none⟩=some (vs d)) 11 (by kernel_rfl) (by kernel_rfl) ?_
   simp only[List.take_succ_cons,List.take_zero,List.drop_succ_cons,List.drop_zero]
   have hHeld:(fun w':World=>w'.cell? ⟨wr.heap.size,0,none⟩=some (.int .i64 (d:Int))/\w'.cell? ⟨wr.heap.size,1,none⟩=some (.int .i64 num)/\w'.cell? ⟨w.heap.size,d,none⟩=some (vs d)) wd.drew:=by go_keep
   refine wpAnyH_take (i:=0) (oi:=_) (v:=?v0) rfl (by kernel_rfl) (by kernel_rfl) (by kernel_rfl) (fun _ _ _ h=>h) (Or.inl ⟨by rfl,?h0⟩) (by assumption) ?_
   case h0=>(intro w hSw;(try dsimp only at hSw);go_simp;(try with_reducible rfl))
   simp only[Act.put,List.setIfInBounds_toArray]
   refine wpAnyH_take (i:=1) (oi:=_) (v:=?v1) rfl (by kernel_rfl) (by kernel_rfl) (by kernel_rfl) (fun _ _ _ h=>h) (Or.inl ⟨by rfl,?h1⟩) (by assumption) ?_
   case h1=>(intro w hSw;(try dsimp only at hSw);go_simp;(try with_reducible rfl))
   simp only[Act.put,List.setIfInBounds_toArray]
   refine wpAnyH_take (i:=2) (oi:=_) (v:=?v2) rfl (by kernel_rfl) (by kernel_rfl) (by kernel_rfl) (fun _ _ _ h=>h) (Or.inl ⟨by rfl,?h2⟩) (by assumption) ?_
   case h2=>(intro w hSw;(try dsimp only at hSw);go_simp;(try with_reducible rfl))
   simp only[Act.put,List.setIfInBounds_toArray]
   refine wpAnyH_take (i:=3) (oi:=_) (v:=?v3) rfl (by kernel_rfl) (by kernel_rfl) (by kernel_rfl) (fun _ _ _ h=>h) (Or.inl ⟨by rfl,?h3⟩) (by assumption) ?_
   case h3=>(intro w hSw;(try dsimp only at hSw);go_simp;(try with_reducible rfl))
   simp only[Act.put,List.setIfInBounds_toArray]
   refine wpAnyH_take (i:=4) (oi:=_) (v:=?v4) rfl (by kernel_rfl) (by kernel_rfl) (by kernel_rfl) (fun _ _ _ h=>h) (Or.inl ⟨by rfl,?h4⟩) (by assumption) ?_
   case h4=>(intro w hSw;(try dsimp only at hSw);go_simp;(try with_reducible rfl))
   simp only[Act.put,List.setIfInBounds_toArray]
   refine wpAnyH_take (i:=5) (oi:=_) (v:=?v5) rfl (by kernel_rfl) (by kernel_rfl) (by kernel_rfl) (fun _ _ _ h=>h) (Or.inl ⟨by rfl,?h5⟩) (by assumption) ?_
   case h5=>(intro w hSw;(try dsimp only at hSw);go_simp;(try with_reducible rfl))
   simp only[Act.put,List.setIfInBounds_toArray]
   refine wpAnyH_take (i:=6) (oi:=_) (v:=?v6) rfl (by kernel_rfl) (by kernel_rfl) (by kernel_rfl) (fun _ _ _ h=>h) (Or.inl ⟨by rfl,?h6⟩) (by assumption) ?_
   case h6=>(intro w hSw;(try dsimp only at hSw);go_simp;(try with_reducible rfl))
   simp only[Act.put,List.setIfInBounds_toArray]
   refine wpAnyH_take (i:=7) (oi:=_) (v:=?v7) rfl (by kernel_rfl) (by kernel_rfl) (by kernel_rfl) (fun _ _ _ h=>h) (Or.inl ⟨by rfl,?h7⟩) (by assumption) ?_
   case h7=>(intro w hSw;(try dsimp only at hSw);go_simp;(try with_reducible rfl))
   simp only[Act.put,List.setIfInBounds_toArray]
   refine wpAnyH_ready (rs:=[8]) (by kernel_rfl) (by simp) ?_
   refine AllReadyH.cons (o:=_) rfl (fun K hK=>?_) AllReadyH.nil
   go_simp
   refine hK.out _ _ ?_ (fun hHeld8=>?_)
   ·go_keep
   clear hK K
   simp only[List.setIfInBounds_toArray]
   refine wpAnyH_ready (rs:=[9]) (by kernel_rfl) (by simp) ?_
   refine AllReadyH.cons (o:=_) rfl (fun K hK=>?_) AllReadyH.nil
   (refine V0 (v:=vs d) rfl (.tmp 24) (.tmp 27) _ rfl Vk (by decide) (by decide) (fun _ _ h=>h.one) rfl (((HR5.out.own d hd4).grow ((Below.refl _ wd).alloc (Nat.le_refl _) _)).drew) rfl (SlP.one (x:=num) HRE.out rfl _ (by simp)) HL.out (by simp;omega) ?_;intro v1 w4 hown4 hb4 hg4 hv4;have hsh4:=OwnP.shape hown4;simp only[List.length_append,List.length_singleton]at hsh4;obtain⟨A1,c1,hv1⟩:=hsh4;subst hv1;have hg4h:Hid (w4.heap[w.heap.size]?=some (.cells #[vs 0,vs 1,vs 2,vs 3] 183 (0,0))):=(hg4.block w.heap.size (by simp;omega) (fun e=>by have:=HLT.out _ e.symm;omega)).trans ((Qg hwd1).trans HR5.out.arr);have hc4:w4.cell? ⟨w.heap.size,d,none⟩=some (vs d):=(Qa hg4h.out).trans (ZC vs hd4);have hf4:w4.frozen? ⟨w.heap.size,d,none⟩=false:=Qb hg4h.out;have hx3:=(hg4.block wr.heap.size (by simp;omega) (fun e=>by have:=HLT.out _ e.symm;omega)).trans ((Qg hwd3).trans HXB.out);have hx4:Hid (w4.cell? ⟨wr.heap.size,0,none⟩=some (.int .i64 (d:Int))/\w4.cell? ⟨wr.heap.size,1,none⟩=some (.int .i64 num)/\w4.cell? ⟨w.heap.size,d,none⟩=some (vs d)):=⟨(Qa (i:=0) hx3).trans rfl,(Qa (i:=1) hx3).trans rfl,hc4⟩;clear hx3)
   refine hK.out _ _ ?_ (fun hHeld9=>?_)
   ·exact hx4.out
   clear hK K
   simp only[Act.put,List.setIfInBounds_toArray]
   refine wpAnyH_take (i:=10) (oi:=_) (v:=?v10) rfl (by kernel_rfl) (by kernel_rfl) (by kernel_rfl) (fun _ _ _ h=>h) (Or.inl ⟨by rfl,?h10⟩) (by assumption) ?_
   case h10=>(intro w hSw;(try dsimp only at hSw);go_simp;(try with_reducible rfl))
   simp only[Act.put,List.setIfInBounds_toArray]
   refine wpAnyH_done (by kernel_rfl) ?_ _
   change wpList _ _ _ _ _ _
   go_wp2_with fail
   go_roundw
   case rel=>
    refine⟨k+1,by omega,by go_num,fun i=>if i=d then .slice A1 ((numsL (l.take k) d).length+1) c1 else vs i,?_,?_⟩
    ·rw[HPD.out]
     exact Rows4.put (w:=(wd.alloc (.cells #[.int .i64 num] 2)).drew) ((HR5.out.grow ((Below.refl _ _).alloc (Nat.le_refl _) _)).same rfl) hd4 hown4 hg4 hv4
    ·exact (((HBW.out.alloc (by omega) _).drew.trans (hb4.mono (by omega))).setCell (Nat.le_refl _) _)
   case measure=>simp[intOf];omega
  ·obtain rfl:k=l.length:=by omega
   rw[List.take_of_length_le (Nat.le_refl _)]at hr4
   have c0:wr.cell? ⟨w.heap.size,0,none⟩=some (vs 0):=hr4.at (by omega)
   have c1:wr.cell? ⟨w.heap.size,1,none⟩=some (vs 1):=hr4.at (by omega)
   have c2:wr.cell? ⟨w.heap.size,2,none⟩=some (vs 2):=hr4.at (by omega)
   have c3:wr.cell? ⟨w.heap.size,3,none⟩=some (vs 3):=hr4.at (by omega)
   have HR:=hid hr4
   have HRR:=hid hR
   clear hr4 b3 hR
   go_wp2_with fail
   obtain⟨w1,rfl⟩:∃ w1:World,w1=wr:=⟨_,rfl⟩
   go_loopw [32] (fun i wr=>∃ k:Nat,k<=4/\i=.int .i64 k/\OfB l w1 k wr) (fun i _=>4-(intOf i).toNat)
   case atStart=>exact⟨0,by omega,rfl,fun _=>.slice none 0 0,Qd rfl,fun j _=>by rw[if_neg (Nat.not_lt_zero _)];exact OwnP.nil,(Below.refl _ _).alloc (Nat.le_refl _) _⟩
   case round=>
    obtain⟨k,hk,rfl,ps,hpa,hpo,hbi⟩:=hrel
    have hsi:=hbi.size
    have hsi2:w1.heap.size<wr.heap.size:=(Array.getElem?_eq_some_iff.1 hpa).1
    by_cases hk4:k<4
    ·have hki:(k:Int)<4:=by omega
     have hidx:∀ w,(Instr.index 183 (.agg #[vs 0,vs 1,vs 2,vs 3]) (.int .i64 (k:Int))).run Tryz.prog w=.ok (vs k) w:=fun w=>by
      match k,hk4 with
      |0,_=>rfl
      |1,_=>rfl
      |2,_=>rfl
      |3,_=>rfl
     have hnl:=ZK l k
     have HSL:Hid (SlP wr wr.heap.size 1 InE (vs k) (numsL l k)):=(HR.out.sl hk4 (by show (numsL l k).length<=Big;unfold Big;omega)).imp hbi hsi fun _ _ _ h=>h
     have HNB:Hid (∀ x∈numsL l k,numB x=true):=fun x hx=>by
      unfold numsL at hx
      obtain⟨d,hd,rfl⟩:=List.mem_map.1 hx
      have h1:=HRR.out d (List.mem_filter.1 hd).1
      simp[Dt.right]at h1
      simp[numB];omega
     have HPA:=hid hpa
     have HPO:=hid hpo
     have hpc:wr.cell? ⟨w1.heap.size,k,none⟩=some (ps k):=(Qa hpa).trans (ZC ps hk4)
     clear hpa hpo
     go_wp2_with fail
     refine (zZ9 (numsL l k) (vs k) wr HSL.out HNB.out (by omega)).mono ?_
     rintro e w2 ⟨v2,rfl,ho2,hb2⟩
     obtain⟨A2,n2,rfl⟩:=ho2.shape
     have hp2:=(hb2.block w1.heap.size hsi2).trans HPA.out
     have hc2:w2.cell? ⟨w1.heap.size,k,none⟩=some (ps k):=(Qa hp2).trans (ZC ps hk4)
     have hf2:w2.frozen? ⟨w1.heap.size,k,none⟩=false:=Qb hp2
     have HP2:=hid hp2
     have HO2:=hid ho2
     clear hp2 ho2 hpc hidx
     go_wp2_with fail
     go_roundw
     case rel=>
      refine⟨k+1,by omega,by go_num,fun j=>if j=k then .slice A2 (ofL (numsL l k)).length n2 else ps j,?_,fun j hj=>?_,(hbi.trans (hb2.mono hsi)).setCell (Nat.le_refl _) _⟩
      ·rw[Qe HP2.out,Vu ps hk4]
      ·by_cases e:j=k
       ·subst e
        simp only[if_true,if_pos (Nat.lt_succ_self j)]
        exact (HO2.out.mono (by omega)).setOther (by simp) _
       ·have e2:(if j<k+1 then ofL (numsL l (j:Int)) else [])=(if j<k then ofL (numsL l (j:Int)) else []):=by
         by_cases e3:j<k
         ·rw[if_pos e3,if_pos (by omega)]
         ·rw[if_neg e3,if_neg (by omega)]
        simp only[if_neg e]
        rw[e2]
        exact ((HPO.out j hj).grow hb2).setOther (by simp) _
     case measure=>simp[intOf];omega
    ·obtain rfl:k=4:=by omega
     have d0:wr.cell? ⟨w1.heap.size,0,none⟩=some (ps 0):=Qa (i:=0) hpa
     have d1:wr.cell? ⟨w1.heap.size,1,none⟩=some (ps 1):=Qa (i:=1) hpa
     have d2:wr.cell? ⟨w1.heap.size,2,none⟩=some (ps 2):=Qa (i:=2) hpa
     have d3:wr.cell? ⟨w1.heap.size,3,none⟩=some (ps 3):=Qa (i:=3) hpa
     have HOL:∀ j:Nat,(ofL (numsL l (j:Int))).length<=100001:=fun j=>by have:=Vm (numsL l (j:Int));have:=ZK l (j:Int);omega
     have HSP:Hid (∀ j,j<4->SlP wr wr.heap.size 2 RuE (ps j) (ofL (numsL l (j:Int)))):=fun j hj=>by
      have:=hpo j hj
      rw[if_pos hj]at this
      exact this.sl (by have:=HOL j;unfold Big;omega)
     have HOLH:=hid HOL
     clear hpa hpo HOL
     go_wp2_with fail
     refine (VZ (fun j=>ofL (numsL l (j:Int))) ps wr HSP.out (fun j _=>by have:=HOLH.out j;show (ofL _).length<=_;omega)).mono ?_
     rintro e w2 ⟨v2,rfl,ho2,hb2⟩
     go_wp2_with fail
     go_ret2
     exact⟨_,rfl,ho2.mono (by omega),(hb.trans (hbi.mono hsz)).trans (hb2.mono (by omega))⟩
def zXb (t:Tr)(w:World)(e:Ending)(w':World):Prop:=
 ∃ v n,e=.returned (.tuple #[v,.int .i64 n])/\n=(if t.right 5 then 0 else 1)/\OwnP w' w.heap.size 45 3 SpE v (if t.right 5 then ctxOf t.dots else [])/\Below w.heap.size w w'
theorem YG (t:Tr)(ve vk:Value)(w:World)(h:t.rd w w.heap.size ve vk)(hN:t.sz<=90000) :
  Calls Tryz.prog 68 #[.agg #[ve,vk]] w (zXb t w):=by
 have HC:Hid (∀ w',Below w.heap.size w w'->t.rd w' w'.heap.size ve vk):=fun w' hb=>Qi hb hb.size _ _ _ h
 have hdl:=Zb t
 obtain⟨A3,n3,A4,n4,rfl,rfl⟩:=Qj h
 have hb0:=(Below.refl w.heap.size w).alloc (Nat.le_refl _) (.cells #[.slice A3 t.es.length n3,.slice A4 t.ks.length n4] 25)
 clear h
 go_enter Tryz.func68,Tryz.ntmps68
 go_wp2_with fail
 refine (QG t _ _ _ (HC.out _ hb0)).mono ?_
 rintro e w1 ⟨rfl,hb1⟩
 have hs1:=hb1.size
 simp only[World.size_alloc]at hs1
 have hB1:Below w.heap.size w w1:=hb0.trans (hb1.mono (by simp))
 have c0:w1.cell? ⟨w.heap.size,0,none⟩=some (.slice A3 t.es.length n3):=by rw[hb1.cell (p:=⟨w.heap.size,0,none⟩) (by simp)];simp
 have c1:w1.cell? ⟨w.heap.size,1,none⟩=some (.slice A4 t.ks.length n4):=by rw[hb1.cell (p:=⟨w.heap.size,1,none⟩) (by simp)];simp
 cases hr:t.right 5
 ·have HR:=hid hr
  clear hr
  go_wp2_with fail
  go_ret2
  exact⟨_,_,rfl,by rw[HR.out];rfl,by rw[HR.out];exact OwnP.nil,hB1⟩
 ·have HR:=hid hr
  have HD:=hid (Q0 t 5 hr)
  clear hr
  go_wp2_with fail
  refine (zQa t _ _ _ (HC.out _ hB1) (by omega)).mono ?_
  rintro e w2 ⟨v2,rfl,ho2,hb2⟩
  have hs2:=hb2.size
  have hsl:=ho2.sl (by unfold Big;omega)
  clear ho2
  go_wp2_with fail
  refine (X9 t.dots v2 w2 hsl HD.out (by omega)).mono ?_
  rintro e w3 ⟨v3,rfl,ho3,hb3⟩
  go_wp2_with fail
  go_ret2
  exact⟨_,_,rfl,by rw[HR.out];rfl,by rw[HR.out];exact ho3.mono (by omega),(hB1.trans (hb2.mono (by omega))).trans (hb3.mono (by omega))⟩
theorem zYp {t:Tr}(h:t.right 5=true)(d:Dt):cHas (ctxOf t.dots) d=hasC (ctxOf t.dots) d:=zXa (Qq (Q0 t 5 h)) d
def chkI (t:Tr)(d:Dt):Int:=if chkT t d then 0 else 1
theorem Zm (t:Tr)(d:Dt)(ve vk:Value)(w:World)(h:t.rd w w.heap.size ve vk)(hN:t.sz<=90000) :
  Calls Tryz.prog 98 #[.agg #[ve,vk],.agg #[.int .i64 d.dc,.int .i64 d.n]] w fun e w'=>e=.returned (.int .i64 (chkI t d))/\Below w.heap.size w w':=by
 have HC:Hid (∀ w',Below w.heap.size w w'->t.rd w' w'.heap.size ve vk):=fun w' hb=>Qi hb hb.size _ _ _ h
 have hcl:(ctxOf t.dots).length<=900000:=by have:=Zk t.dots 4;have:=Zb t;unfold ctxOf;omega
 have HCL:=hid hcl
 obtain⟨A3,n3,A4,n4,rfl,rfl⟩:=Qj h
 have hb0:=((Below.refl w.heap.size w).alloc (Nat.le_refl _) (.cells #[.slice A3 t.es.length n3,.slice A4 t.ks.length n4] 25)).alloc (by simp) (.cells #[.int .i64 d.dc,.int .i64 d.n] 78)
 clear h hcl
 go_enter Tryz.func98,Tryz.ntmps98
 go_wp2_with fail
 refine (YG t _ _ _ (HC.out _ hb0) hN).mono ?_
 rintro e w1 ⟨v1,n1,rfl,hn1,ho1,hb1⟩
 have hs1:=hb1.size
 simp only[World.size_alloc]at hs1
 have hB1:Below w.heap.size w w1:=hb0.trans (hb1.mono (by simp;omega))
 have c0:w1.cell? ⟨w.heap.size+1,0,none⟩=some (.int .i64 d.dc):=by rw[hb1.cell (p:=⟨w.heap.size+1,0,none⟩) (by simp)];simp
 have c1:w1.cell? ⟨w.heap.size+1,1,none⟩=some (.int .i64 d.n):=by rw[hb1.cell (p:=⟨w.heap.size+1,1,none⟩) (by simp)];simp
 cases hr:t.right 5
 ·have HR:Hid (chkT t d=false):=by unfold Hid chkT;rw[hr];rfl
  rw[hr]at hn1
  obtain rfl:n1=1:=hn1
  clear hr ho1
  go_wp2_with fail
  go_ret
  exact⟨Qn (by rw[chkI,HR.out];rfl),hB1⟩
 rw[hr]at hn1 ho1
 obtain rfl:n1=0:=hn1
 simp only[if_true]at ho1
 have hsl:=ho1.sl (by have:=HCL.out;unfold Big;omega)
 have HSL:=hid hsl
 cases hd:d.right
 ·have HR:Hid (chkT t d=false):=by unfold Hid chkT;rw[hr,hd];rfl
  have HD:=hid hd
  clear hr ho1 hsl hd
  go_wp2_with (go_at_call 64;refine (QB d _).mono ?_;rw[HD.out];rintro e w2 ⟨rfl,hb2⟩)
  go_ret
  exact⟨Qn (by rw[chkI,HR.out];rfl),hB1.trans (hb2.mono (by omega))⟩
 ·have HR:Hid (chkT t d = !cHas (ctxOf t.dots) d):=by unfold Hid chkT;rw[hr,hd,zYp hr];rfl
  have HD:=hid hd
  clear hr ho1 hsl hd
  go_wp2_with fail
  refine (QB d _).mono ?_
  rw[HD.out]
  rintro e w2 ⟨rfl,hb2⟩
  have hs2:=hb2.size
  have d0:w2.cell? ⟨w.heap.size+1,0,none⟩=some (.int .i64 d.dc):=(hb2.cell (p:=⟨w.heap.size+1,0,none⟩) (by show w.heap.size+1<_;omega)).trans c0
  have d1:w2.cell? ⟨w.heap.size+1,1,none⟩=some (.int .i64 d.n):=(hb2.cell (p:=⟨w.heap.size+1,1,none⟩) (by show w.heap.size+1<_;omega)).trans c1
  go_wp2_with fail
  refine (Xw (ctxOf t.dots) d v1 w2 (HSL.out.imp hb2 hs2 fun _ _ _ h=>h) HCL.out).mono ?_
  rintro e w3 ⟨rfl,hb3⟩
  have hB3:=(hB1.trans (hb2.mono (by omega))).trans (hb3.mono (show w.heap.size<=_ by omega))
  generalize cHas (ctxOf t.dots) d=q at *
  cases q
  all_goals
   go_wp2_with fail
   go_ret
   exact⟨Qn (by rw[chkI,HR.out];rfl),hB3⟩
def RetCE (w:World)(t:Tr)(c:List Sp)(k:Int)(e:Ending)(w':World):Prop:=
 ∃ ve vk vc,e=.returned (.tuple #[.agg #[ve,vk,vc],.int .i64 k])/\t.rda w' (fun b=>w.heap.size<=b/\b<w'.heap.size) ve vk/\SlA w' (fun b=>w.heap.size<=b/\b<w'.heap.size) 3 SpE vc c/\Below w.heap.size w w'
theorem Zn {t:Tr}{d:Dt}(h:chkT t d=true):d.right=true:=by
 unfold chkT at h;simp at h;exact h.1.2
theorem Yj {t:Tr}{d:Dt}(h:chkT t d=true):t.right 5=true:=by
 unfold chkT at h;simp at h;exact h.1.1
theorem SlA.one {α:Type}{w:World}{ok:Nat->Prop}{sz n:Nat}{E:α->List Value->Prop}{x:α}{cs:List Value}{e:TypeId}{z:Nat×Nat}(hE:E x cs)(hl:cs.length=sz)(h:w.heap[n]?=some (.cells cs.toArray e z))(ho:ok n) :
  SlA w ok sz E (.slice (some ⟨n,0,none⟩) 1 1) [x]:=by
 refine⟨_,1,rfl,Nat.le_refl _,by simp[Big],fun _=>⟨_,0,rfl,ho,fun j y hy=>?_⟩⟩
 match j,hy with
 |0,hy=>
  simp at hy;subst hy
  exact⟨cs,hE,hl,fun i u hi=>by rw[Qa h];simpa using hi⟩
theorem En.Ok.mk' {d:Dt}{n:Int}(hd:d.Ok)(hn:I64 n):En.Ok ⟨d.dc,d.n,ByteArray.empty,n⟩:=⟨hd.dc,hd.n,hn,by simp[Big]⟩
theorem UFb.keep {w w':World}{ok:Nat->Prop}{b:Nat}(h:UFb w b)(hk:Keeps ok w w')(hb:ok b):UFb w' b:=h.up (hk b hb)
theorem UFb.set {w:World}{b:Nat}(h:UFb w b)(a:Addr)(v:Value):UFb (w.setCell a v) b:=fun o=>(JV _ _ _ _).trans (h o)
def SlU {α:Type}(w:World)(ok:Nat->Prop)(sz:Nat)(E:α->List Value->Prop)(v:Value)(xs:List α):Prop:=SlA w (fun b=>ok b/\UFb w b) sz E v xs
def Tr.rdu (w:World)(ok:Nat->Prop)(t:Tr)(ve vk:Value):Prop:=t.rda w (fun b=>ok b/\UFb w b) ve vk
def KdU (w:World)(ok:Nat->Prop)(p:Kd)(cs:List Value):Prop:=∃ ve vk,cs=[.string p.1,ve,vk]/\p.1.size<=Big/\p.2.rdu w ok ve vk
theorem SlU.up {α:Type}{w w':World}{ok ok':Nat->Prop}{sz:Nat}{E E':α->List Value->Prop}{v:Value}{xs:List α}(h:SlU w ok sz E v xs)(hk:Keeps ok w w')(ho:∀ b,ok b->ok' b)
  (hE:∀ x∈xs,∀ cs,E x cs->E' x cs):SlU w' ok' sz E' v xs:=SlA.up h (fun b hb=>hk b hb.1) (fun b hb=>⟨ho b hb.1,hb.2.keep hk hb.1⟩) hE
theorem YH {w w':World}{ok ok':Nat->Prop}(hk:Keeps ok w w')(ho:∀ b,ok b->ok' b)(t:Tr)(ve vk:Value)(h:t.rdu w ok ve vk):t.rdu w' ok' ve vk:=Qs (fun b hb=>hk b hb.1) (fun b hb=>⟨ho b hb.1,hb.2.keep hk hb.1⟩) t ve vk h
theorem qVi {w:World}{ok:Nat->Prop}{es:List En}{ks:List Kd}{ve vk:Value}:(Tr.mk es ks).rdu w ok ve vk↔SlU w ok 4 EnE ve es/\SlU w ok 3 (KdU w ok) vk ks:=Zh
theorem QY {w:World}{ok:Nat->Prop}{t:Tr}{ve vk:Value}(h:t.rdu w ok ve vk):∃ A n A' m,ve=.slice A t.es.length n/\vk=.slice A' t.ks.length m:=Ql h
theorem qX7 {w w':World}{ok ok':Nat->Prop}(hk:Keeps ok w w')(ho:∀ b,ok b->ok' b)(t:Tr)(ve vk:Value)(h:t.rdu w ok ve vk):t.rda w' ok' ve vk:=Qs (fun b hb=>hk b hb.1) (fun b hb=>ho b hb.1) t ve vk h
theorem SlU.dn {α:Type}{w:World}{ok:Nat->Prop}{sz:Nat}{E:α->List Value->Prop}{v:Value}{xs:List α}(h:SlU w ok sz E v xs):SlA w ok sz E v xs:=SlA.up h (fun _ _=>rfl) (fun _ hb=>hb.1) fun _ _ _ h=>h
theorem KdU.mon:Emon KdU where
 up:=fun hk ho ⟨ve,vk,h1,h2,h3⟩=>⟨ve,vk,h1,h2,YH hk ho _ _ _ h3⟩
 one:=by
  rintro w ok x cs ⟨ve,vk,rfl,_,h⟩
  obtain⟨A,n,A',m,rfl,rfl⟩:=QY h
  simp[Value.oneCell']
theorem zXc (w:World)(ok:Nat->Prop):(Tr.mk [] []).rdu w ok (.slice none 0 0) (.slice none 0 0):=Qp _ _
theorem SlU.nil {α:Type}{w:World}{ok:Nat->Prop}{sz:Nat}{E:α->List Value->Prop}:SlU w ok sz E (.slice none 0 0) ([]:List α):=SlA.nil
theorem OwnP.slu {α:Type}{w:World}{base:Nat}{e:TypeId}{sz:Nat}{E:α->List Value->Prop}{v:Value}{xs:List α}(h:OwnP w base e sz E v xs)(hl:xs.length<=Big):SlU w (fun b=>base<=b/\b<w.heap.size/\v.ownBlock=some b) sz E v xs:=by
 by_cases hn:xs=[]
 ·subst hn
  obtain⟨A,c,hv,h1,h2,_⟩:=h.sla hl
  exact⟨A,c,hv,h1,h2,fun h=>absurd rfl h⟩
 ·obtain⟨g,cap,hv,_,_,hf⟩:=h.form hn
  refine SlA.up (h.sla hl) (fun _ _=>rfl) (fun b hb=>⟨hb,?_⟩) (fun _ _ _ h=>h)
  have hg:=hb.2.2
  rw[hv]at hg
  obtain rfl:g=b:=by simpa[Value.ownBlock] using hg
  exact hf
theorem qX8 {w:World}{ok okq:Nat->Prop}{q:ByteArray}{t:Tr}{ve vk:Value}{B:Nat}(h:t.rdu w ok ve vk)(hq:q.size<=Big)(hok:∀ b,ok b->b<w.heap.size/\okq b)(e:TypeId)(hB:w.heap.size<B) :
  SlP (w.alloc (.cells #[.string q,ve,vk] e)) B 3 (KdU (w.alloc (.cells #[.string q,ve,vk] e)) okq) (.slice (some ⟨w.heap.size,0,none⟩) 1 1) [(q,t)]:=
 SlP.oneB (x:=(q,t)) (cs:=[.string q,ve,vk]) ⟨ve,vk,rfl,hq,YH (fun b hb=>Qg (hok b hb).1) (fun b hb=>(hok b hb).2) _ _ _ h⟩ rfl e rfl hB
theorem qVj {w:World}{g:Nat}{t:Tr}{ok:Nat->Prop}{ve vk x y:Value}{e:TypeId}(hbx:w.heap[g]?=some (.cells #[x,y] e (0,0)))(h:t.rdu w ok ve vk)(hne:∀ b,ok b->b≠g) :
  ((w.setCell ⟨g,0,none⟩ ve).setCell ⟨g,1,none⟩ vk).cell? ⟨g,0,none⟩=some ve/\((w.setCell ⟨g,0,none⟩ ve).setCell ⟨g,1,none⟩ vk).cell? ⟨g,1,none⟩=some vk /\
   t.rdu ((w.setCell ⟨g,0,none⟩ ve).setCell ⟨g,1,none⟩ vk) ok ve vk/\((w.setCell ⟨g,0,none⟩ ve).setCell ⟨g,1,none⟩ vk).heap.size=w.heap.size:=by
 have hW:=Qe (i:=1) (Qe (i:=0) hbx ve) vk
 refine⟨(Qa (i:=0) hW).trans (by simp),(Qa (i:=1) hW).trans (by simp),YH (fun b hb=>?_) (fun _ hb=>hb) _ _ _ h,by simp[World.setCell]⟩
 exact (Below.heap_setCell _ _ _ _ (hne b hb)).trans (Below.heap_setCell _ _ _ _ (hne b hb))
def RetTU (w:World)(t:Tr)(e:Ending)(w':World):Prop:=
 ∃ ve vk,e=.returned (.agg #[ve,vk])/\t.rdu w' (fun b=>w.heap.size<=b/\b<w'.heap.size) ve vk/\Below w.heap.size w w'
def RetCU (w:World)(t:Tr)(c:List Sp)(e:Ending)(w':World):Prop:=
 ∃ ve vk vc,e=.returned (.agg #[ve,vk,vc])/\t.rdu w' (fun b=>w.heap.size<=b/\b<w'.heap.size) ve vk/\SlU w' (fun b=>w.heap.size<=b/\b<w'.heap.size) 3 SpE vc c/\Below w.heap.size w w'
theorem RetTU.dn {w w':World}{t:Tr}{e:Ending}(h:RetTU w t e w'):RetT w t e w':=by
 obtain⟨ve,vk,h1,h2,h3⟩:=h
 exact⟨ve,vk,h1,qX7 (fun _ _=>rfl) (fun _ h=>h) _ _ _ h2,h3⟩
theorem RetCU.dn {w w':World}{t:Tr}{c:List Sp}{e:Ending}(h:RetCU w t c e w'):RetC w t c e w':=by
 obtain⟨ve,vk,vc,h1,h2,h3,h4⟩:=h
 exact⟨ve,vk,vc,h1,qX7 (fun _ _=>rfl) (fun _ h=>h) _ _ _ h2,h3.dn,h4⟩
theorem qZn {w:World}{ok:Nat->Prop}(t:Tr)(ve vk:Value)(h:t.rdu w ok ve vk):t.shp w ok ve vk:=zZ7 t ve vk h
end Go.Proofs.YtbcoelggdikipaaGreat
