/- What the laws need. No condition but those that each lemma states. -/
import Derived.Deep.Slices
import Derived.ProofKit
import Derived.SizedLaws
import Derived.Test.YtidebdbjekijkaaGreatProg
import Derived.Test.YtidebdbjekijkaaGreatRows
import Derived.Test.YtidebdbjekijkaaGreatUm6
import Derived.Test.YtidebdbjekijkaaGreatUm2
import Derived.Test.YtidebdbjekijkaaGreatUm1
set_option maxRecDepth 100000
set_option maxHeartbeats 8000000
set_option linter.unusedSimpArgs false
namespace Go.Proofs.YtidebdbjekijkaaGreat
open Go.RowKit
def TwoB (wx:World)(p q:Nat)(J K:Kn):Prop:=
 ∃ a b c d e f,wx.heap[p]?=some (.cells #[a,b,c] 29 (0,0))/\wx.heap[q]?=some (.cells #[d,e,f] 29 (0,0))/\J.1.rda wx (fun k=>k≠p/\k≠q/\k<wx.heap.size) a b/\SlA wx (fun k=>k≠p/\k≠q/\k<wx.heap.size) 3 SpE c J.2 /\
  K.1.rda wx (fun k=>k≠p/\k≠q/\k<wx.heap.size) d e/\SlA wx (fun k=>k≠p/\k≠q/\k<wx.heap.size) 3 SpE f K.2
theorem QX {w6:World}{p q:Nat}{x0 x1 x2 y0 y1 y2 a b c d e f:Value}{J K:Kn}(hpq:p≠q)(g1:w6.heap[p]?=some (.cells #[x0,x1,x2] 29 (0,0)))(g2:w6.heap[q]?=some (.cells #[y0,y1,y2] 29 (0,0)))
  (h1:J.1.rda w6 (fun k=>k≠p/\k≠q/\k<w6.heap.size) a b) (h2:SlA w6 (fun k=>k≠p/\k≠q/\k<w6.heap.size) 3 SpE c J.2) (h3:K.1.rda w6 (fun k=>k≠p/\k≠q/\k<w6.heap.size) d e) (h4:SlA w6 (fun k=>k≠p/\k≠q/\k<w6.heap.size) 3 SpE f K.2) :
  TwoB ((((((((w6.setCell ⟨p,0,none⟩ a).setCell ⟨p,1,none⟩ b).setCell ⟨p,2,none⟩ c)).setCell ⟨q,0,none⟩ d).setCell ⟨q,1,none⟩ e).setCell ⟨q,2,none⟩ f)) p q J K/\(∀ k,k≠p->k≠q->((((((((w6.setCell ⟨p,0,none⟩ a).setCell ⟨p,1,none⟩ b).setCell ⟨p,2,none⟩ c)).setCell ⟨q,0,none⟩ d).setCell ⟨q,1,none⟩ e).setCell ⟨q,2,none⟩ f)).heap[k]?=w6.heap[k]?)/\((((((((w6.setCell ⟨p,0,none⟩ a).setCell ⟨p,1,none⟩ b).setCell ⟨p,2,none⟩ c)).setCell ⟨q,0,none⟩ d).setCell ⟨q,1,none⟩ e).setCell ⟨q,2,none⟩ f)).heap.size=w6.heap.size:=by
 obtain⟨_,_,_,hK,hS⟩:=box3 g1 a b c
 have hW:=Qe (i:=2) (Qe (i:=1) (Qe (i:=0) g1 a) b) c
 have g3:=(hK q (Ne.symm hpq)).trans g2
 obtain⟨_,_,_,hK2,hS2⟩:=box3 g3 d e f
 have hW2:=Qe (i:=2) (Qe (i:=1) (Qe (i:=0) g3 d) e) f
 have k:∀ r,r≠p/\r≠q/\r<w6.heap.size->((((((((w6.setCell ⟨p,0,none⟩ a).setCell ⟨p,1,none⟩ b).setCell ⟨p,2,none⟩ c)).setCell ⟨q,0,none⟩ d).setCell ⟨q,1,none⟩ e).setCell ⟨q,2,none⟩ f)).heap[r]?=w6.heap[r]?:=fun r hr=>(hK2 r hr.2.1).trans (hK r hr.1)
 have s:((((((((w6.setCell ⟨p,0,none⟩ a).setCell ⟨p,1,none⟩ b).setCell ⟨p,2,none⟩ c)).setCell ⟨q,0,none⟩ d).setCell ⟨q,1,none⟩ e).setCell ⟨q,2,none⟩ f)).heap.size=w6.heap.size:=by rw[hS2,hS]
 have o:∀ r,r≠p/\r≠q/\r<w6.heap.size->(r≠p/\r≠q/\r<((((((((w6.setCell ⟨p,0,none⟩ a).setCell ⟨p,1,none⟩ b).setCell ⟨p,2,none⟩ c)).setCell ⟨q,0,none⟩ d).setCell ⟨q,1,none⟩ e).setCell ⟨q,2,none⟩ f)).heap.size):=fun r hr=>⟨hr.1,hr.2.1,by rw[s];exact hr.2.2⟩
 refine⟨⟨a,b,c,d,e,f,(hK2 p hpq).trans (by simpa using hW),by simpa using hW2,Qw k o _ _ _ h1,h2.up k o (fun _ _ _ h=>h),Qw k o _ _ _ h3,h4.up k o fun _ _ _ h=>h⟩,fun r hr hr'=>(hK2 r hr').trans (hK r hr),s⟩
def CaA (w:World)(ok:Nat->Prop)(x:Kn)(cs:List Value):Prop:=∃ ve vk vc,cs=[ve,vk,vc]/\x.1.rda w ok ve vk/\SlA w ok 3 SpE vc x.2
theorem CaA.mon:Emon CaA where
 up:=fun hk ho ⟨ve,vk,vc,h1,h2,h3⟩=>⟨ve,vk,vc,h1,Qw hk ho _ _ _ h2,h3.up hk ho fun _ _ _ h=>h⟩
 one:=by
  rintro w ok x cs ⟨ve,vk,vc,rfl,h2,h3⟩
  obtain⟨A,n,B,m,rfl,rfl⟩:=Qp h2
  obtain⟨C,k,rfl⟩:=h3.shape
  simp[Value.oneCell']
theorem eiCa2:Qn Tryz.prog 42 29 3 72:=Qn.mk (z:=.agg #[.slice none 0 0,.slice none 0 0,.slice none 0 0]) Tryz.underlying42 (by kernel_rfl) rfl
theorem Qr (w:World)(o:Obj):∃ w',w'=w.alloc o/\w'.heap[w.heap.size]?=some o/\w'.heap.size=w.heap.size+1/\Below w.heap.size w w':=
 ⟨_,rfl,Qh rfl,World.size_alloc _ _,(Below.refl _ w).alloc (Nat.le_refl _) _⟩
theorem TwoB.grow {w w':World}{p q:Nat}{J K:Kn}(h:TwoB w p q J K)(hb:Below w.heap.size w w'):TwoB w' p q J K:=by
 obtain⟨a,b,c,d,e,f,h1,h2,h3,h4,h5,h6⟩:=h
 have k:∀ r,r≠p/\r≠q/\r<w.heap.size->w'.heap[r]?=w.heap[r]?:=fun r hr=>hb.block r hr.2.2
 have o:∀ r,r≠p/\r≠q/\r<w.heap.size->(r≠p/\r≠q/\r<w'.heap.size):=fun r hr=>⟨hr.1,hr.2.1,Nat.lt_of_lt_of_le hr.2.2 hb.size⟩
 exact⟨a,b,c,d,e,f,(hb.block p (lt_of_block h1)).trans h1,(hb.block q (lt_of_block h2)).trans h2,Qw k o _ _ _ h3,h4.up k o (fun _ _ _ h=>h),Qw k o _ _ _ h5,h6.up k o fun _ _ _ h=>h⟩
theorem qYj {w:World}{ok:Nat->Prop}{A:Option Addr}{n:Nat}{l:List Kn}(h:SlP w w.heap.size 3 (CaA w ok) (.slice A l.length n) l){k:Nat}{x:Kn}(hx:l[k]?=some x) :
  ∃ b off,A=some ⟨b,off,none⟩/\b<w.heap.size/\∃ A1 n1 B1 m1 C1 k1,x.1.rda w ok (.slice A1 x.1.es.length n1) (.slice B1 x.1.ks.length m1)/\SlA w ok 3 SpE (.slice C1 x.2.length k1) x.2 /\
   ∀ W:World,W.heap[b]?=w.heap[b]?->(W.cell? ⟨b,off+k*3,none⟩=some (.slice A1 x.1.es.length n1)/\W.cell? ⟨b,off+k*3+1,none⟩=some (.slice B1 x.1.ks.length m1)/\W.cell? ⟨b,off+k*3+2,none⟩=some (.slice C1 x.2.length k1)):=by
 obtain⟨A',n',hv,_,_,h3⟩:=h
 cases hv
 obtain⟨b,off,rfl,hb,hc⟩:=h3 (by rintro rfl;simp at hx)
 obtain⟨cs,⟨ve,vk,vc,rfl,h1,h2⟩,_,hu⟩:=hc k x hx
 obtain⟨A1,n1,B1,m1,rfl,rfl⟩:=Qp h1
 obtain⟨C1,k1,rfl⟩:=h2.shape
 have e:∀ W:World,W.heap[b]?=w.heap[b]?->∀ o,W.cell? ⟨b,o,none⟩=w.cell? ⟨b,o,none⟩:=fun W hW o=>World.cell?_of_block hW
 exact⟨b,off,rfl,hb,A1,n1,B1,m1,C1,k1,h1,h2,fun W hW=>⟨(e W hW _).trans (hu 0 _ rfl),(e W hW _).trans (hu 1 _ rfl),(e W hW _).trans (hu 2 _ rfl)⟩⟩
end Go.Proofs.YtidebdbjekijkaaGreat
namespace Go.Proofs.YtidebdbjekijkaaGreat
open Go.ChangeShapes Go.WideShapes Go.ChangeAt Go.RowKit
def Wt {H:Type}(P:Program)(t:TypeId)(d:DataW H):Prop:=∀ m∈d.weights P t,m<=reachBytes
section
variable {H:Type}{enc:TypeId×Value->H}{w:World}
theorem Wt.field {P:Program}{t:TypeId}{fs:Array Field}{parts:List (DataW H)}(hu:P.underlying t=some (.struct fs))(h:Wt P t (.agg parts)){i:Nat}{f:Field}{d:DataW H}(hf:fs[i]?=some f)(hd:parts[i]?=some d):Wt P f.type d:=fun m hm=>by
 refine h m ?_
 unfold DataW.weights
 rw[hu]
 exact DataW.weights_mem_each (j:=i) (t:=f.type) (d:=d) (by simp[hf]) hd m hm
theorem Wt.all {P:Program}{e:TypeId}:∀ {ds:List (DataW H)}{d:DataW H},d∈ds->∀ m∈d.weights P e,m∈DataW.weightsAll P e ds
 |x :: ds,d,hd,m,hm=>by
  rw[DataW.weightsAll]
  rcases List.mem_cons.1 hd with rfl|hd
  ·exact List.mem_append_left _ hm
  ·exact List.mem_append_right _ (Wt.all hd m hm)
theorem Wt.elem {P:Program}{t e:TypeId}{elems spare:List (DataW H)}(hu:P.underlying t=some (.slice e))(h:Wt P t (.slice elems spare)):(elems.length+spare.length)*P.bytesOf e<=reachBytes/\∀ d∈elems,Wt P e d:=by
 unfold Wt at h
 unfold DataW.weights at h
 rw[hu]at h
 refine⟨h _ (by simp),fun d hd m hm=>h m ?_⟩
 exact List.mem_cons_of_mem _ (List.mem_append_left _ (Wt.all hd m hm))
theorem qZr {n:Int}(h:(Lit.int .i64 n).wf=true):I64 n:=by
 have h1:IntKind.i64.min=-9223372036854775808:=rfl
 have h2:IntKind.i64.max=9223372036854775807:=rfl
 simp only[Lit.wf,Bool.and_eq_true,decide_eq_true_eq]at h
 unfold I64;omega
theorem X3 {α:Type}{E:α->List Value->Prop}{t e:TypeId}{sz bytes fuel:Nat}{cs:List Value}{x:DataW H×List MemPlace}(hu:Tryz.prog.underlying t=some (.slice e))(hC:Tryz.prog.cellsOf e=sz)(hsz:0<sz)(hB:Tryz.prog.bytesOf e=bytes)(hb:0<bytes)
  (h:DataW.trod enc Tryz.prog w 0 (fun _=>true) true fuel t cs=some x) (hw:Wt Tryz.prog t x.1)
  (hel:∀ n cs y,n<fuel->DataW.trod enc Tryz.prog w 0 (fun _=>true) true n e cs=some y->Wt Tryz.prog e y.1->∃ a,E a cs) :
  ∃ v xs,cs=[v]/\SlP w w.heap.size sz E v xs:=by
 rcases DataW.trod_slice hu h with⟨rfl,rfl⟩|⟨a,len,cap,elems,rest,n,rfl,rfl,rfl,_,hl,hm,hlen,he,hs,_⟩
 ·exact⟨_,[],rfl,SlP.nil⟩
 ·obtain⟨hr,hwe⟩:=Wt.elem hu hw
  rw[hB,List.length_map,List.length_map]at hr
  have hrl:=(hs rfl).1
  have hcap:cap<=Big:=by
   have h1:(elems.length+rest.length)*1<=(elems.length+rest.length)*bytes:=Nat.mul_le_mul_left _ hb
   unfold reachBytes at hr;unfold Big;omega
  have key:∀ i,i<len->∃ (x:α) (c:List Value),E x c/\c.length=sz/\∀ j,j<sz->w.cell? (a.add (i*sz+j))=c[j]?:=fun i hi=>by
   have h1:=he i hi
   have h2:elems[i]?=some elems[i]:=List.getElem?_eq_getElem (by omega)
   rw[h2]at h1
   obtain⟨c,h3,h4⟩:=Option.bind_eq_some_iff.1 h1
   obtain⟨_,h5,h6⟩:=World.cells?_some h3
   obtain⟨x,hx⟩:=hel n c elems[i] (Nat.lt_succ_self n) h4 (hwe _ (List.mem_map.2 ⟨elems[i],List.getElem_mem _,rfl⟩))
   rw[hC]at h5 h6
   exact⟨x,c,hx,h5,fun j hj=>by rw[←Go.Deep.add_add];exact h6 j hj⟩
  rcases Nat.eq_zero_or_pos len with h0|h0
  ·subst h0
   exact⟨_,[],rfl,⟨some a,cap,rfl,Nat.zero_le _,Nat.zero_le _,fun h=>absurd rfl h⟩⟩
  ·obtain⟨x0,c0,_,hc0,hcell0⟩:=key 0 h0
   have hv0:=hcell0 0 hsz
   rw[List.getElem?_eq_getElem (by omega)]at hv0
   obtain⟨b,off,spot⟩:=a
   have hspot:spot=none:=by simpa[Addr.add] using World.cell?_spot hv0
   subst hspot
   have hbl:b<w.heap.size:=by
    have:=World.block_lt_of_cell? w _ hv0
    simpa[Addr.add] using this
   classical
   refine⟨_,(List.range len).map fun i=>if hi:i<len then Classical.choose (key i hi) else x0,rfl,some ⟨b,off,none⟩,cap,by simp,by simp;omega,by simp;omega,fun _=>⟨b,off,rfl,hbl,fun j x hx=>?_⟩⟩
   have hj:j<len:=by have:=(List.getElem?_eq_some_iff.1 hx).1;simpa using this
   rw[List.getElem?_map,List.getElem?_range hj]at hx
   simp only[Option.map_some,dif_pos hj,Option.some.injEq]at hx
   obtain⟨c,h1,h2,h3⟩:=Classical.choose_spec (key j hj)
   rw[hx]at h1
   refine⟨c,h1,h2,fun i u hi=>?_⟩
   have hlt:i<sz:=by have:=(List.getElem?_eq_some_iff.1 hi).1;omega
   have:=h3 i hlt
   rw[hi]at this
   rw[←this]
   congr 1
   simp[Addr.add,Nat.add_assoc]
theorem Vd:Tryz.prog.cellsOf 52=2:=by kernel_rfl
theorem XG:Tryz.prog.cellsOf 92=4:=by kernel_rfl
theorem JP:Tryz.prog.cellsOf 25=2:=by kernel_rfl
theorem Ve:Tryz.prog.cellsOf 106=3:=by kernel_rfl
theorem Zu:Tryz.prog.cellsOf 9=1/\Tryz.prog.cellsOf 3=1/\Tryz.prog.cellsOf 2=1/\Tryz.prog.cellsOf 22=1/\Tryz.prog.cellsOf 23=1:=by refine⟨?_,?_,?_,?_,?_⟩<;>kernel_rfl
theorem VJ:Tryz.prog.bytesOf 92=40:=by kernel_rfl
theorem qXw:Tryz.prog.bytesOf 106=64:=by kernel_rfl
theorem qXx {fuel:Nat}{cs:List Value}{x:DataW H×List MemPlace}(h:DataW.trod enc Tryz.prog w 0 (fun _=>true) true fuel 52 cs=some x):∃ d:Dt,DtE d cs:=by
 obtain⟨xs,n,rfl,rfl,hl,hx,hf⟩:=DataW.trod_struct Tryz.underlying52 h
 rw[Vd]at hl
 match cs,hl with
 |[c0,c1],_=>
  match xs,hx with
  |[y0,y1],_=>
   have f0:DataW.trod enc Tryz.prog w 0 (fun _=>true) true n 3 (([c0,c1].drop 0).take (Tryz.prog.cellsOf 3))=some y0:=hf 0 _ rfl
   rw[Zu.2.1]at f0
   have f1:DataW.trod enc Tryz.prog w 0 (fun _=>true) true n 2 (([c0,c1].drop 1).take (Tryz.prog.cellsOf 2))=some y1:=hf 1 _ rfl
   rw[Zu.2.2.1]at f1
   obtain⟨a,e0,_,w0⟩:=DataW.trod_int Tryz.underlying3 (show DataW.trod enc Tryz.prog w 0 (fun _=>true) true n 3 [c0]=some y0 from f0)
   obtain⟨b,e1,_,w1⟩:=DataW.trod_int Tryz.underlying2 (show DataW.trod enc Tryz.prog w 0 (fun _=>true) true n 2 [c1]=some y1 from f1)
   simp at e0 e1
   subst e0;subst e1
   exact⟨⟨a,b⟩,rfl,qZr w0,qZr w1⟩
theorem VK {fuel:Nat}{cs:List Value}{x:DataW H×List MemPlace}(h:DataW.trod enc Tryz.prog w 0 (fun _=>true) true fuel 92 cs=some x)(hw:Wt Tryz.prog 92 x.1):∃ e:En,EnE e cs:=by
 obtain⟨xs,n,rfl,rfl,hl,hx,hf⟩:=DataW.trod_struct Tryz.underlying92 h
 rw[XG]at hl
 match cs,hl with
 |[c0,c1,c2,c3],_=>
  match xs,hx with
  |[y0,y1,y2],_=>
   have f0:DataW.trod enc Tryz.prog w 0 (fun _=>true) true n 52 (([c0,c1,c2,c3].drop 0).take (Tryz.prog.cellsOf 52))=some y0:=hf 0 _ rfl
   rw[Vd]at f0
   have f1:DataW.trod enc Tryz.prog w 0 (fun _=>true) true n 9 (([c0,c1,c2,c3].drop 2).take (Tryz.prog.cellsOf 9))=some y1:=hf 1 _ rfl
   rw[Zu.1]at f1
   have f2:DataW.trod enc Tryz.prog w 0 (fun _=>true) true n 2 (([c0,c1,c2,c3].drop 3).take (Tryz.prog.cellsOf 2))=some y2:=hf 2 _ rfl
   rw[Zu.2.2.1]at f2
   obtain⟨d,ed,od⟩:=qXx (show DataW.trod enc Tryz.prog w 0 (fun _=>true) true n 52 [c0,c1]=some y0 from f0)
   obtain⟨s,e1,hy1,_⟩:=DataW.trod_string Tryz.underlying9 (show DataW.trod enc Tryz.prog w 0 (fun _=>true) true n 9 [c2]=some y1 from f1)
   obtain⟨b,e2,_,w2⟩:=DataW.trod_int Tryz.underlying2 (show DataW.trod enc Tryz.prog w 0 (fun _=>true) true n 2 [c3]=some y2 from f2)
   have hs:s.size<=Big:=by
    have:=Wt.field Tryz.underlying92 hw (i:=1) (d:=y1.1) rfl rfl s.size (by rw[hy1];simp[DataW.weights])
    unfold reachBytes at this;unfold Big;omega
   simp at ed e1 e2
   obtain⟨rfl,rfl⟩:=ed
   subst e1;subst e2
   exact⟨⟨d.dc,d.n,s,b⟩,rfl,od.dc,od.n,qZr w2,hs⟩
theorem qZs:∀ (fuel:Nat) (cs:List Value) (x:DataW H×List MemPlace),DataW.trod enc Tryz.prog w 0 (fun _=>true) true fuel 25 cs=some x->Wt Tryz.prog 25 x.1->∃ t ve vk,cs=[ve,vk]/\Tr.rd w w.heap.size t ve vk:=by
 intro fuel
 induction fuel using Nat.strongRecOn with
 |ind fuel ih=>
 intro cs x h hw
 obtain⟨xs,n,rfl,rfl,hl,hx,hf⟩:=DataW.trod_struct Tryz.underlying25 h
 rw[JP]at hl
 match cs,hl with
 |[c0,c1],_=>
  match xs,hx with
  |[y0,y1],_=>
   have f0:DataW.trod enc Tryz.prog w 0 (fun _=>true) true n 22 (([c0,c1].drop 0).take (Tryz.prog.cellsOf 22))=some y0:=hf 0 _ rfl
   rw[Zu.2.2.2.1]at f0
   have f1:DataW.trod enc Tryz.prog w 0 (fun _=>true) true n 23 (([c0,c1].drop 1).take (Tryz.prog.cellsOf 23))=some y1:=hf 1 _ rfl
   rw[Zu.2.2.2.2]at f1
   obtain⟨v0,es,e0,h0⟩:=X3 (E:=EnE) Tryz.underlying22 XG (by decide) VJ (by decide) (show DataW.trod enc Tryz.prog w 0 (fun _=>true) true n 22 [c0]=some y0 from f0) (Wt.field Tryz.underlying25 hw (i:=0) rfl rfl)
    (fun m cs y _ hy hwy=>VK hy hwy)
   obtain⟨v1,ks,e1,h1⟩:=X3 (E:=KdE w w.heap.size) Tryz.underlying23 Ve (by decide) qXw (by decide) (show DataW.trod enc Tryz.prog w 0 (fun _=>true) true n 23 [c1]=some y1 from f1) (Wt.field Tryz.underlying25 hw (i:=1) rfl rfl)
    (fun m cs y hm hy hwy=>by
     obtain⟨zs,k,rfl,rfl,hl,hz,hg⟩:=DataW.trod_struct Tryz.underlying106 hy
     rw[Ve]at hl
     match cs,hl with
     |[d0,d1,d2],_=>
      match zs,hz with
      |[z0,z1],_=>
       have g0:DataW.trod enc Tryz.prog w 0 (fun _=>true) true k 9 (([d0,d1,d2].drop 0).take (Tryz.prog.cellsOf 9))=some z0:=hg 0 _ rfl
       rw[Zu.1]at g0
       have g1:DataW.trod enc Tryz.prog w 0 (fun _=>true) true k 25 (([d0,d1,d2].drop 1).take (Tryz.prog.cellsOf 25))=some z1:=hg 1 _ rfl
       rw[JP]at g1
       obtain⟨s,u1,hy1,_⟩:=DataW.trod_string Tryz.underlying9 (show DataW.trod enc Tryz.prog w 0 (fun _=>true) true k 9 [d0]=some z0 from g0)
       obtain⟨t,ve,vk,u2,ht⟩:=ih k (by omega) [d1,d2] z1 (show DataW.trod enc Tryz.prog w 0 (fun _=>true) true k 25 [d1,d2]=some z1 from g1) (Wt.field Tryz.underlying106 hwy (i:=1) rfl rfl)
       have hs:s.size<=Big:=by
        have:=Wt.field Tryz.underlying106 hwy (i:=0) (d:=z0.1) rfl rfl s.size (by rw[hy1];simp[DataW.weights])
        unfold reachBytes at this;unfold Big;omega
       simp at u1 u2
       obtain⟨rfl,rfl⟩:=u2
       subst u1
       exact⟨(s,t),d1,d2,rfl,hs,ht⟩)
   simp at e0 e1
   subst e0;subst e1
   exact⟨.mk es ks,c0,c1,rfl,QH.2 ⟨h0,h1⟩⟩
theorem Yr (hl:laidOutB Tryz.prog=true){W':World}:∀ (ts:List TypeId) (vs:List Value) (ds:List (DataW H)) (ps:List MemPlace),(∀ t∈ts,Tryz.prog.readableRec t=true/\t<Tryz.prog.types.size) ->
  DataW.TrodAll enc Tryz.prog w 0 (fun _=>true) true ts vs ds ps->Below w.heap.size w W'->(∀ x∈ps,x.block<w.heap.size)->DataW.TrodAll enc Tryz.prog W' 0 (fun b=>decide (b<w.heap.size)) true ts vs ds ps
 |[],[],[],ps,_,h,_,_=>h
 |t :: ts,v :: vs,d :: ds,ps,hr,h,hb,hlt=>by
  obtain⟨p,q,h1,h2,rfl⟩:=h
  exact⟨p,q,Below.trod hl (hr t (by simp)).1 (hr t (by simp)).2 h1 hb (fun x hx=>hlt x (List.mem_append_left _ hx)),Yr hl ts vs ds q (fun t ht=>hr t (by simp[ht])) h2 hb (fun x hx=>hlt x (List.mem_append_right _ hx)),rfl⟩
end
theorem own:ownKnob Tryz.prog.godebug=none:=by kernel_rfl
theorem qY6:laidOutB Tryz.prog=true:=by kernel_rfl
theorem qJo:Tryz.prog.readableRec 25=true/\25<Tryz.prog.types.size:=⟨by kernel_rfl,of_decide_eq_true (by kernel_rfl)⟩
theorem qXy {H:Type}{enc:TypeId×Value->H}{W:World}{base:Nat}{v:Value}{d:DataW H}{p:List MemPlace}(hv:Value.okWide Tryz.prog W .any base 25 v)(h:DataW.Trod enc Tryz.prog W 0 (fun _=>true) true 25 v d p)(hw:Wt Tryz.prog 25 d) :
  ∃ t ve vk,v=.agg #[ve,vk]/\Tr.rd W W.heap.size t ve vk:=by
 obtain⟨cs,rfl,hs⟩:=okWide_struct Tryz.underlying25 hv
 obtain⟨fuel,hf⟩:=h
 obtain⟨t,ve,vk,e,ht⟩:=qZs fuel _ _ hf hw
 refine⟨t,ve,vk,?_,ht⟩
 simp[Value.cells]at e
 obtain⟨l⟩:=cs
 simp at e
 rw[e]
section
variable {H:Type}{enc:TypeId×Value->H}{w:World}
end
end Go.Proofs.YtidebdbjekijkaaGreat
