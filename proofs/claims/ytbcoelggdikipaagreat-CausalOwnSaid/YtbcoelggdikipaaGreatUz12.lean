/- What the laws need. No condition but those that each lemma states. -/
import Derived.Test.YtbcoelggdikipaaGreatUz10
import Derived.Test.YtbcoelggdikipaaGreatUz7
set_option maxRecDepth 100000
set_option maxHeartbeats 8000000
set_option linter.unusedSimpArgs false
namespace Go.Proofs.YtbcoelggdikipaaGreat
open Go.ChangeShapes Go.WideShapes Go.ChangeAt Go.RowKit
theorem qQw:Tryz.prog.readableRec 29=true/\29<Tryz.prog.types.size:=⟨by kernel_rfl,of_decide_eq_true (by kernel_rfl)⟩
theorem Jm:Tryz.prog.cellsOf 45=3:=by kernel_rfl
theorem qQx:Tryz.prog.cellsOf 27=1:=by kernel_rfl
theorem JL:Tryz.prog.cellsOf 29=3:=by kernel_rfl
theorem VZ:Tryz.prog.bytesOf 45=24:=by kernel_rfl
section
variable {H:Type}{enc:TypeId×Value->H}{w:World}
theorem V0 {fuel:Nat}{cs:List Value}{x:DataW H×List MemPlace}(h:DataW.trod enc Tryz.prog w 0 (fun _=>true) true fuel 45 cs=some x):∃ d:Sp,SpE d cs:=by
 obtain⟨xs,n,rfl,rfl,hl,hx,hf⟩:=DataW.trod_struct Tryz.underlying45 h
 rw[Jm]at hl
 match cs,hl with
 |[c0,c1,c2],_=>
  match xs,hx with
  |[y0,y1,y2],_=>
   have f0:DataW.trod enc Tryz.prog w 0 (fun _=>true) true n 3 (([c0,c1,c2].drop 0).take (Tryz.prog.cellsOf 3))=some y0:=hf 0 _ rfl
   rw[QK.2.1]at f0
   have f1:DataW.trod enc Tryz.prog w 0 (fun _=>true) true n 2 (([c0,c1,c2].drop 1).take (Tryz.prog.cellsOf 2))=some y1:=hf 1 _ rfl
   rw[QK.2.2.1]at f1
   have f2:DataW.trod enc Tryz.prog w 0 (fun _=>true) true n 2 (([c0,c1,c2].drop 2).take (Tryz.prog.cellsOf 2))=some y2:=hf 2 _ rfl
   rw[QK.2.2.1]at f2
   obtain⟨a,e0,_,w0⟩:=DataW.trod_int Tryz.underlying3 (show DataW.trod enc Tryz.prog w 0 (fun _=>true) true n 3 [c0]=some y0 from f0)
   obtain⟨b,e1,_,w1⟩:=DataW.trod_int Tryz.underlying2 (show DataW.trod enc Tryz.prog w 0 (fun _=>true) true n 2 [c1]=some y1 from f1)
   obtain⟨c,e2,_,w2⟩:=DataW.trod_int Tryz.underlying2 (show DataW.trod enc Tryz.prog w 0 (fun _=>true) true n 2 [c2]=some y2 from f2)
   simp at e0 e1 e2
   subst e0;subst e1;subst e2
   exact⟨⟨a,b,c⟩,rfl,Xg w0,Xg w1,Xg w2⟩
theorem qZr {fuel:Nat}{cs:List Value}{x:DataW H×List MemPlace}(h:DataW.trod enc Tryz.prog w 0 (fun _=>true) true fuel 29 cs=some x)(hw:Wt Tryz.prog 29 x.1) :
  ∃ t c ve vk vc,cs=[ve,vk,vc]/\Tr.rd w w.heap.size t ve vk/\SlP w w.heap.size 3 SpE vc c:=by
 obtain⟨xs,n,rfl,rfl,hl,hx,hf⟩:=DataW.trod_struct Tryz.underlying29 h
 rw[JL]at hl
 match cs,hl with
 |[c0,c1,c2],_=>
  match xs,hx with
  |[y0,y1],_=>
   have f0:DataW.trod enc Tryz.prog w 0 (fun _=>true) true n 25 (([c0,c1,c2].drop 0).take (Tryz.prog.cellsOf 25))=some y0:=hf 0 _ rfl
   rw[YV]at f0
   have f1:DataW.trod enc Tryz.prog w 0 (fun _=>true) true n 27 (([c0,c1,c2].drop 2).take (Tryz.prog.cellsOf 27))=some y1:=hf 1 _ rfl
   rw[qQx]at f1
   obtain⟨t,ve,vk,e,ht⟩:=VP n _ _ (show DataW.trod enc Tryz.prog w 0 (fun _=>true) true n 25 [c0,c1]=some y0 from f0) (Wt.field Tryz.underlying29 hw (i:=0) rfl rfl)
   obtain⟨v1,c,e1,h1⟩:=Yt (E:=SpE) Tryz.underlying27 Jm (by decide) VZ (by decide) (show DataW.trod enc Tryz.prog w 0 (fun _=>true) true n 27 [c2]=some y1 from f1) (Wt.field Tryz.underlying29 hw (i:=1) rfl rfl)
    (fun m cs y _ hy hwy=>V0 hy)
   simp at e e1
   obtain⟨rfl,rfl⟩:=e
   subst e1
   exact⟨t,c,c0,c1,c2,rfl,ht,h1⟩
end
theorem qQ6 {H:Type}{enc:TypeId×Value->H}{W:World}{base:Nat}{v:Value}{d:DataW H}{p:List MemPlace}(hv:Value.okWide Tryz.prog W .any base 29 v)(h:DataW.Trod enc Tryz.prog W 0 (fun _=>true) true 29 v d p)(hw:Wt Tryz.prog 29 d) :
  ∃ t c ve vk vc,v=.agg #[ve,vk,vc]/\Tr.rd W W.heap.size t ve vk/\SlP W W.heap.size 3 SpE vc c:=by
 obtain⟨cs,rfl,hs⟩:=okWide_struct Tryz.underlying29 hv
 obtain⟨fuel,hf⟩:=h
 obtain⟨t,c,ve,vk,vc,e,ht,hc⟩:=qZr hf hw
 refine⟨t,c,ve,vk,vc,?_,ht,hc⟩
 simp[Value.cells]at e
 obtain⟨l⟩:=cs
 simp at e
 rw[e]
theorem V1:Tryz.prog.readableRec 30=true/\30<Tryz.prog.types.size:=⟨by kernel_rfl,of_decide_eq_true (by kernel_rfl)⟩
theorem JM:Tryz.prog.bytesOf 9=16:=by kernel_rfl
theorem qQy {H:Type}{enc:TypeId×Value->H}{w:World}{fuel:Nat}{cs:List Value}{x:DataW H×List MemPlace}(h:DataW.trod enc Tryz.prog w 0 (fun _=>true) true fuel 9 cs=some x)(hw:Wt Tryz.prog 9 x.1):∃ s:ByteArray,StE s cs:=by
 obtain⟨s,e,hy,_⟩:=DataW.trod_string Tryz.underlying9 h
 refine⟨s,e,?_⟩
 have:=hw s.size (by rw[hy];simp[DataW.weights])
 unfold reachBytes at this;unfold Big;omega
theorem qQz {H:Type}{enc:TypeId×Value->H}{W:World}{base:Nat}{v:Value}{d:DataW H}{p:List MemPlace}(hv:Value.okWide Tryz.prog W .any base 30 v)(h:DataW.Trod enc Tryz.prog W 0 (fun _=>true) true 30 v d p)(hw:Wt Tryz.prog 30 d) :
  ∃ l:List ByteArray,SlP W W.heap.size 1 StE v l:=by
 obtain⟨a,len,cap,rfl⟩:=okWide_slice Tryz.underlying30 hv
 obtain⟨fuel,hf⟩:=h
 obtain⟨v',l,e,hl⟩:=Yt (E:=StE) Tryz.underlying30 QK.1 (by decide) JM (by decide) hf hw fun _ _ _ _ hy hwy=>qQy hy hwy
 simp[Value.cells]at e
 subst e
 exact⟨l,hl⟩
end Go.Proofs.YtbcoelggdikipaaGreat
