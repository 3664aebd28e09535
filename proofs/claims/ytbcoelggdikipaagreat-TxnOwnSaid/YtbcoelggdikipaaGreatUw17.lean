/- What the laws need. No condition but those that each lemma states. -/
import Derived.Deep.Slices
import Derived.ProofKit
import Derived.SizedLaws
import Derived.Test.YtbcoelggdikipaaGreatProg
import Derived.Test.YtbcoelggdikipaaGreatRows
import Derived.Test.YtbcoelggdikipaaGreatUw1
set_option maxRecDepth 100000
set_option maxHeartbeats 8000000
set_option linter.unusedSimpArgs false
namespace Go.Proofs.YtbcoelggdikipaaGreat
open Go.ChangeShapes Go.WideShapes Go.ChangeAt Go.RowKit
def Wt {H:Type}(P:Program)(t:TypeId)(d:DataW H):Prop:=∀ m∈d.weights P t,m<=reachBytes
section
variable {H:Type}{enc:TypeId×Value->H}{w:World}
theorem Wt.field {P:Program}{t:TypeId}{fs:Array Field}{parts:List (DataW H)}(hu:P.underlying t=some (.struct fs))(h:Wt P t (.agg parts)){i:Nat}{f:Field}{d:DataW H}(hf:fs[i]?=some f)(hd:parts[i]?=some d):Wt P f.type d:=fun m hm=>by
 refine h m ?_
 unfold DataW.weights
 rw[hu]
 exact DataW.weights_mem_each (j:=i) (t:=f.type) (d:=d) (by simp[hf]) hd m hm
theorem Wt.all {P:Program}{e:TypeId}:∀ {ds:List (DataW H)}{d:DataW H},d∈ds->∀ m∈d.weights P e,m∈DataW.weightsAll P e ds
 |x :: ds,d,hd,m,hm=>by
  rw[DataW.weightsAll]
  rcases List.mem_cons.1 hd with rfl|hd
  ·exact List.mem_append_left _ hm
  ·exact List.mem_append_right _ (Wt.all hd m hm)
theorem Wt.elem {P:Program}{t e:TypeId}{elems spare:List (DataW H)}(hu:P.underlying t=some (.slice e))(h:Wt P t (.slice elems spare)):(elems.length+spare.length)*P.bytesOf e<=reachBytes/\∀ d∈elems,Wt P e d:=by
 unfold Wt at h
 unfold DataW.weights at h
 rw[hu]at h
 refine⟨h _ (by simp),fun d hd m hm=>h m ?_⟩
 exact List.mem_cons_of_mem _ (List.mem_append_left _ (Wt.all hd m hm))
theorem Ju {n:Int}(h:(Lit.int .i64 n).wf=true):I64 n:=by
 have h1:IntKind.i64.min=-9223372036854775808:=rfl
 have h2:IntKind.i64.max=9223372036854775807:=rfl
 simp only[Lit.wf,Bool.and_eq_true,decide_eq_true_eq]at h
 unfold I64;omega
theorem XV {α:Type}{E:α->List Value->Prop}{t e:TypeId}{sz bytes fuel:Nat}{cs:List Value}{x:DataW H×List MemPlace}(hu:Tryz.prog.underlying t=some (.slice e))(hC:Tryz.prog.cellsOf e=sz)(hsz:0<sz)(hB:Tryz.prog.bytesOf e=bytes)(hb:0<bytes)
  (h:DataW.trod enc Tryz.prog w 0 (fun _=>true) true fuel t cs=some x) (hw:Wt Tryz.prog t x.1)
  (hel:∀ n cs y,n<fuel->DataW.trod enc Tryz.prog w 0 (fun _=>true) true n e cs=some y->Wt Tryz.prog e y.1->∃ a,E a cs) :
  ∃ v xs,cs=[v]/\SlP w w.heap.size sz E v xs:=by
 rcases DataW.trod_slice hu h with⟨rfl,rfl⟩|⟨a,len,cap,elems,rest,n,rfl,rfl,rfl,_,hl,hm,hlen,he,hs,_⟩
 ·exact⟨_,[],rfl,SlP.nil⟩
 ·obtain⟨hr,hwe⟩:=Wt.elem hu hw
  rw[hB,List.length_map,List.length_map]at hr
  have hrl:=(hs rfl).1
  have hcap:cap<=Big:=by
   have h1:(elems.length+rest.length)*1<=(elems.length+rest.length)*bytes:=Nat.mul_le_mul_left _ hb
   unfold reachBytes at hr;unfold Big;omega
  have key:∀ i,i<len->∃ (x:α) (c:List Value),E x c/\c.length=sz/\∀ j,j<sz->w.cell? (a.add (i*sz+j))=c[j]?:=fun i hi=>by
   have h1:=he i hi
   have h2:elems[i]?=some elems[i]:=List.getElem?_eq_getElem (by omega)
   rw[h2]at h1
   obtain⟨c,h3,h4⟩:=Option.bind_eq_some_iff.1 h1
   obtain⟨_,h5,h6⟩:=World.cells?_some h3
   obtain⟨x,hx⟩:=hel n c elems[i] (Nat.lt_succ_self n) h4 (hwe _ (List.mem_map.2 ⟨elems[i],List.getElem_mem _,rfl⟩))
   rw[hC]at h5 h6
   exact⟨x,c,hx,h5,fun j hj=>by rw[←Go.Deep.add_add];exact h6 j hj⟩
  rcases Nat.eq_zero_or_pos len with h0|h0
  ·subst h0
   exact⟨_,[],rfl,⟨some a,cap,rfl,Nat.zero_le _,Nat.zero_le _,fun h=>absurd rfl h⟩⟩
  ·obtain⟨x0,c0,_,hc0,hcell0⟩:=key 0 h0
   have hv0:=hcell0 0 hsz
   rw[List.getElem?_eq_getElem (by omega)]at hv0
   obtain⟨b,off,spot⟩:=a
   have hspot:spot=none:=by simpa[Addr.add] using World.cell?_spot hv0
   subst hspot
   have hbl:b<w.heap.size:=by
    have:=World.block_lt_of_cell? w _ hv0
    simpa[Addr.add] using this
   classical
   refine⟨_,(List.range len).map fun i=>if hi:i<len then Classical.choose (key i hi) else x0,rfl,some ⟨b,off,none⟩,cap,by simp,by simp;omega,by simp;omega,fun _=>⟨b,off,rfl,hbl,fun j x hx=>?_⟩⟩
   have hj:j<len:=by have:=(List.getElem?_eq_some_iff.1 hx).1;simpa using this
   rw[List.getElem?_map,List.getElem?_range hj]at hx
   simp only[Option.map_some,dif_pos hj,Option.some.injEq]at hx
   obtain⟨c,h1,h2,h3⟩:=Classical.choose_spec (key j hj)
   rw[hx]at h1
   refine⟨c,h1,h2,fun i u hi=>?_⟩
   have hlt:i<sz:=by have:=(List.getElem?_eq_some_iff.1 hi).1;omega
   have:=h3 i hlt
   rw[hi]at this
   rw[←this]
   congr 1
   simp[Addr.add,Nat.add_assoc]
theorem qJb:Tryz.prog.cellsOf 78=2:=by kernel_rfl
theorem Vi:Tryz.prog.cellsOf 80=4:=by kernel_rfl
theorem KE:Tryz.prog.cellsOf 25=2:=by kernel_rfl
theorem qJc:Tryz.prog.cellsOf 96=3:=by kernel_rfl
theorem QW:Tryz.prog.cellsOf 9=1/\Tryz.prog.cellsOf 3=1/\Tryz.prog.cellsOf 2=1/\Tryz.prog.cellsOf 22=1/\Tryz.prog.cellsOf 23=1:=by refine⟨?_,?_,?_,?_,?_⟩<;>kernel_rfl
theorem qKo:Tryz.prog.bytesOf 80=40:=by kernel_rfl
theorem zZg:Tryz.prog.bytesOf 96=64:=by kernel_rfl
theorem zZh {fuel:Nat}{cs:List Value}{x:DataW H×List MemPlace}(h:DataW.trod enc Tryz.prog w 0 (fun _=>true) true fuel 78 cs=some x):∃ d:Dt,DtE d cs:=by
 obtain⟨xs,n,rfl,rfl,hl,hx,hf⟩:=DataW.trod_struct Tryz.underlying78 h
 rw[qJb]at hl
 match cs,hl with
 |[c0,c1],_=>
  match xs,hx with
  |[y0,y1],_=>
   have f0:DataW.trod enc Tryz.prog w 0 (fun _=>true) true n 3 (([c0,c1].drop 0).take (Tryz.prog.cellsOf 3))=some y0:=hf 0 _ rfl
   rw[QW.2.1]at f0
   have f1:DataW.trod enc Tryz.prog w 0 (fun _=>true) true n 2 (([c0,c1].drop 1).take (Tryz.prog.cellsOf 2))=some y1:=hf 1 _ rfl
   rw[QW.2.2.1]at f1
   obtain⟨a,e0,_,w0⟩:=DataW.trod_int Tryz.underlying3 (show DataW.trod enc Tryz.prog w 0 (fun _=>true) true n 3 [c0]=some y0 from f0)
   obtain⟨b,e1,_,w1⟩:=DataW.trod_int Tryz.underlying2 (show DataW.trod enc Tryz.prog w 0 (fun _=>true) true n 2 [c1]=some y1 from f1)
   simp at e0 e1
   subst e0;subst e1
   exact⟨⟨a,b⟩,rfl,Ju w0,Ju w1⟩
theorem qKp {fuel:Nat}{cs:List Value}{x:DataW H×List MemPlace}(h:DataW.trod enc Tryz.prog w 0 (fun _=>true) true fuel 80 cs=some x)(hw:Wt Tryz.prog 80 x.1):∃ e:En,EnE e cs:=by
 obtain⟨xs,n,rfl,rfl,hl,hx,hf⟩:=DataW.trod_struct Tryz.underlying80 h
 rw[Vi]at hl
 match cs,hl with
 |[c0,c1,c2,c3],_=>
  match xs,hx with
  |[y0,y1,y2],_=>
   have f0:DataW.trod enc Tryz.prog w 0 (fun _=>true) true n 78 (([c0,c1,c2,c3].drop 0).take (Tryz.prog.cellsOf 78))=some y0:=hf 0 _ rfl
   rw[qJb]at f0
   have f1:DataW.trod enc Tryz.prog w 0 (fun _=>true) true n 9 (([c0,c1,c2,c3].drop 2).take (Tryz.prog.cellsOf 9))=some y1:=hf 1 _ rfl
   rw[QW.1]at f1
   have f2:DataW.trod enc Tryz.prog w 0 (fun _=>true) true n 2 (([c0,c1,c2,c3].drop 3).take (Tryz.prog.cellsOf 2))=some y2:=hf 2 _ rfl
   rw[QW.2.2.1]at f2
   obtain⟨d,ed,od⟩:=zZh (show DataW.trod enc Tryz.prog w 0 (fun _=>true) true n 78 [c0,c1]=some y0 from f0)
   obtain⟨s,e1,hy1,_⟩:=DataW.trod_string Tryz.underlying9 (show DataW.trod enc Tryz.prog w 0 (fun _=>true) true n 9 [c2]=some y1 from f1)
   obtain⟨b,e2,_,w2⟩:=DataW.trod_int Tryz.underlying2 (show DataW.trod enc Tryz.prog w 0 (fun _=>true) true n 2 [c3]=some y2 from f2)
   have hs:s.size<=Big:=by
    have:=Wt.field Tryz.underlying80 hw (i:=1) (d:=y1.1) rfl rfl s.size (by rw[hy1];simp[DataW.weights])
    unfold reachBytes at this;unfold Big;omega
   simp at ed e1 e2
   obtain⟨rfl,rfl⟩:=ed
   subst e1;subst e2
   exact⟨⟨d.dc,d.n,s,b⟩,rfl,od.dc,od.n,Ju w2,hs⟩
theorem qUt:∀ (fuel:Nat) (cs:List Value) (x:DataW H×List MemPlace),DataW.trod enc Tryz.prog w 0 (fun _=>true) true fuel 25 cs=some x->Wt Tryz.prog 25 x.1->∃ t ve vk,cs=[ve,vk]/\Tr.rd w w.heap.size t ve vk:=by
 intro fuel
 induction fuel using Nat.strongRecOn with
 |ind fuel ih=>
 intro cs x h hw
 obtain⟨xs,n,rfl,rfl,hl,hx,hf⟩:=DataW.trod_struct Tryz.underlying25 h
 rw[KE]at hl
 match cs,hl with
 |[c0,c1],_=>
  match xs,hx with
  |[y0,y1],_=>
   have f0:DataW.trod enc Tryz.prog w 0 (fun _=>true) true n 22 (([c0,c1].drop 0).take (Tryz.prog.cellsOf 22))=some y0:=hf 0 _ rfl
   rw[QW.2.2.2.1]at f0
   have f1:DataW.trod enc Tryz.prog w 0 (fun _=>true) true n 23 (([c0,c1].drop 1).take (Tryz.prog.cellsOf 23))=some y1:=hf 1 _ rfl
   rw[QW.2.2.2.2]at f1
   obtain⟨v0,es,e0,h0⟩:=XV (E:=EnE) Tryz.underlying22 Vi (by decide) qKo (by decide) (show DataW.trod enc Tryz.prog w 0 (fun _=>true) true n 22 [c0]=some y0 from f0) (Wt.field Tryz.underlying25 hw (i:=0) rfl rfl)
    (fun m cs y _ hy hwy=>qKp hy hwy)
   obtain⟨v1,ks,e1,h1⟩:=XV (E:=KdE w w.heap.size) Tryz.underlying23 qJc (by decide) zZg (by decide) (show DataW.trod enc Tryz.prog w 0 (fun _=>true) true n 23 [c1]=some y1 from f1) (Wt.field Tryz.underlying25 hw (i:=1) rfl rfl)
    (fun m cs y hm hy hwy=>by
     obtain⟨zs,k,rfl,rfl,hl,hz,hg⟩:=DataW.trod_struct Tryz.underlying96 hy
     rw[qJc]at hl
     match cs,hl with
     |[d0,d1,d2],_=>
      match zs,hz with
      |[z0,z1],_=>
       have g0:DataW.trod enc Tryz.prog w 0 (fun _=>true) true k 9 (([d0,d1,d2].drop 0).take (Tryz.prog.cellsOf 9))=some z0:=hg 0 _ rfl
       rw[QW.1]at g0
       have g1:DataW.trod enc Tryz.prog w 0 (fun _=>true) true k 25 (([d0,d1,d2].drop 1).take (Tryz.prog.cellsOf 25))=some z1:=hg 1 _ rfl
       rw[KE]at g1
       obtain⟨s,u1,hy1,_⟩:=DataW.trod_string Tryz.underlying9 (show DataW.trod enc Tryz.prog w 0 (fun _=>true) true k 9 [d0]=some z0 from g0)
       obtain⟨t,ve,vk,u2,ht⟩:=ih k (by omega) [d1,d2] z1 (show DataW.trod enc Tryz.prog w 0 (fun _=>true) true k 25 [d1,d2]=some z1 from g1) (Wt.field Tryz.underlying96 hwy (i:=1) rfl rfl)
       have hs:s.size<=Big:=by
        have:=Wt.field Tryz.underlying96 hwy (i:=0) (d:=z0.1) rfl rfl s.size (by rw[hy1];simp[DataW.weights])
        unfold reachBytes at this;unfold Big;omega
       simp at u1 u2
       obtain⟨rfl,rfl⟩:=u2
       subst u1
       exact⟨(s,t),d1,d2,rfl,hs,ht⟩)
   simp at e0 e1
   subst e0;subst e1
   exact⟨.mk es ks,c0,c1,rfl,QA.2 ⟨h0,h1⟩⟩
theorem XW (hl:laidOutB Tryz.prog=true){W':World}:∀ (ts:List TypeId) (vs:List Value) (ds:List (DataW H)) (ps:List MemPlace),(∀ t∈ts,Tryz.prog.readableRec t=true/\t<Tryz.prog.types.size) ->
  DataW.TrodAll enc Tryz.prog w 0 (fun _=>true) true ts vs ds ps->Below w.heap.size w W'->(∀ x∈ps,x.block<w.heap.size)->DataW.TrodAll enc Tryz.prog W' 0 (fun b=>decide (b<w.heap.size)) true ts vs ds ps
 |[],[],[],ps,_,h,_,_=>h
 |t :: ts,v :: vs,d :: ds,ps,hr,h,hb,hlt=>by
  obtain⟨p,q,h1,h2,rfl⟩:=h
  exact⟨p,q,Below.trod hl (hr t (by simp)).1 (hr t (by simp)).2 h1 hb (fun x hx=>hlt x (List.mem_append_left _ hx)),XW hl ts vs ds q (fun t ht=>hr t (by simp[ht])) h2 hb (fun x hx=>hlt x (List.mem_append_right _ hx)),rfl⟩
end
theorem own:ownKnob Tryz.prog.godebug=none:=by kernel_rfl
theorem zYg:laidOutB Tryz.prog=true:=by kernel_rfl
end Go.Proofs.YtbcoelggdikipaaGreat
