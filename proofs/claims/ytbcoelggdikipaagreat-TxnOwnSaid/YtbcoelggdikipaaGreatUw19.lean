/- What the laws need. No condition but those that each lemma states. -/
import Derived.OpenShut
import Derived.Test.YtbcoelggdikipaaGreatUw17
import Derived.Test.YtbcoelggdikipaaGreatUw11
import Derived.Test.YtbcoelggdikipaaGreatUw1
set_option maxRecDepth 100000
set_option maxHeartbeats 8000000
set_option linter.unusedSimpArgs false
namespace Go.Proofs.YtbcoelggdikipaaGreat
open Go.ChangeShapes Go.WideShapes Go.ChangeAt Go.RowKit
theorem zZo:Tryz.prog.readableRec 29=true/\29<Tryz.prog.types.size:=⟨by kernel_rfl,of_decide_eq_true (by kernel_rfl)⟩
theorem qQ9:Tryz.prog.cellsOf 45=3:=by kernel_rfl
theorem zZp:Tryz.prog.cellsOf 27=1:=by kernel_rfl
theorem qXk:Tryz.prog.cellsOf 29=3:=by kernel_rfl
theorem qU3:Tryz.prog.bytesOf 45=24:=by kernel_rfl
section
variable {H:Type}{enc:TypeId×Value->H}{w:World}
theorem qU4 {fuel:Nat}{cs:List Value}{x:DataW H×List MemPlace}(h:DataW.trod enc Tryz.prog w 0 (fun _=>true) true fuel 45 cs=some x):∃ d:Sp,SpE d cs:=by
 obtain⟨xs,n,rfl,rfl,hl,hx,hf⟩:=DataW.trod_struct Tryz.underlying45 h
 rw[qQ9]at hl
 match cs,hl with
 |[c0,c1,c2],_=>
  match xs,hx with
  |[y0,y1,y2],_=>
   have f0:DataW.trod enc Tryz.prog w 0 (fun _=>true) true n 3 (([c0,c1,c2].drop 0).take (Tryz.prog.cellsOf 3))=some y0:=hf 0 _ rfl
   rw[QW.2.1]at f0
   have f1:DataW.trod enc Tryz.prog w 0 (fun _=>true) true n 2 (([c0,c1,c2].drop 1).take (Tryz.prog.cellsOf 2))=some y1:=hf 1 _ rfl
   rw[QW.2.2.1]at f1
   have f2:DataW.trod enc Tryz.prog w 0 (fun _=>true) true n 2 (([c0,c1,c2].drop 2).take (Tryz.prog.cellsOf 2))=some y2:=hf 2 _ rfl
   rw[QW.2.2.1]at f2
   obtain⟨a,e0,_,w0⟩:=DataW.trod_int Tryz.underlying3 (show DataW.trod enc Tryz.prog w 0 (fun _=>true) true n 3 [c0]=some y0 from f0)
   obtain⟨b,e1,_,w1⟩:=DataW.trod_int Tryz.underlying2 (show DataW.trod enc Tryz.prog w 0 (fun _=>true) true n 2 [c1]=some y1 from f1)
   obtain⟨c,e2,_,w2⟩:=DataW.trod_int Tryz.underlying2 (show DataW.trod enc Tryz.prog w 0 (fun _=>true) true n 2 [c2]=some y2 from f2)
   simp at e0 e1 e2
   subst e0;subst e1;subst e2
   exact⟨⟨a,b,c⟩,rfl,Ju w0,Ju w1,Ju w2⟩
theorem zYi {fuel:Nat}{cs:List Value}{x:DataW H×List MemPlace}(h:DataW.trod enc Tryz.prog w 0 (fun _=>true) true fuel 29 cs=some x)(hw:Wt Tryz.prog 29 x.1) :
  ∃ t c ve vk vc,cs=[ve,vk,vc]/\Tr.rd w w.heap.size t ve vk/\SlP w w.heap.size 3 SpE vc c:=by
 obtain⟨xs,n,rfl,rfl,hl,hx,hf⟩:=DataW.trod_struct Tryz.underlying29 h
 rw[qXk]at hl
 match cs,hl with
 |[c0,c1,c2],_=>
  match xs,hx with
  |[y0,y1],_=>
   have f0:DataW.trod enc Tryz.prog w 0 (fun _=>true) true n 25 (([c0,c1,c2].drop 0).take (Tryz.prog.cellsOf 25))=some y0:=hf 0 _ rfl
   rw[KE]at f0
   have f1:DataW.trod enc Tryz.prog w 0 (fun _=>true) true n 27 (([c0,c1,c2].drop 2).take (Tryz.prog.cellsOf 27))=some y1:=hf 1 _ rfl
   rw[zZp]at f1
   obtain⟨t,ve,vk,e,ht⟩:=qUt n _ _ (show DataW.trod enc Tryz.prog w 0 (fun _=>true) true n 25 [c0,c1]=some y0 from f0) (Wt.field Tryz.underlying29 hw (i:=0) rfl rfl)
   obtain⟨v1,c,e1,h1⟩:=XV (E:=SpE) Tryz.underlying27 qQ9 (by decide) qU3 (by decide) (show DataW.trod enc Tryz.prog w 0 (fun _=>true) true n 27 [c2]=some y1 from f1) (Wt.field Tryz.underlying29 hw (i:=1) rfl rfl)
    (fun m cs y _ hy hwy=>qU4 hy)
   simp at e e1
   obtain⟨rfl,rfl⟩:=e
   subst e1
   exact⟨t,c,c0,c1,c2,rfl,ht,h1⟩
end
theorem zY3 {H:Type}{enc:TypeId×Value->H}{W:World}{base:Nat}{v:Value}{d:DataW H}{p:List MemPlace}(hv:Value.okWide Tryz.prog W .any base 29 v)(h:DataW.Trod enc Tryz.prog W 0 (fun _=>true) true 29 v d p)(hw:Wt Tryz.prog 29 d) :
  ∃ t c ve vk vc,v=.agg #[ve,vk,vc]/\Tr.rd W W.heap.size t ve vk/\SlP W W.heap.size 3 SpE vc c:=by
 obtain⟨cs,rfl,hs⟩:=okWide_struct Tryz.underlying29 hv
 obtain⟨fuel,hf⟩:=h
 obtain⟨t,c,ve,vk,vc,e,ht,hc⟩:=zYi hf hw
 refine⟨t,c,ve,vk,vc,?_,ht,hc⟩
 simp[Value.cells]at e
 obtain⟨l⟩:=cs
 simp at e
 rw[e]
theorem qXl:Tryz.prog.bytesOf 9=16:=by kernel_rfl
theorem qJd {H:Type}{enc:TypeId×Value->H}{w:World}{fuel:Nat}{cs:List Value}{x:DataW H×List MemPlace}(h:DataW.trod enc Tryz.prog w 0 (fun _=>true) true fuel 9 cs=some x)(hw:Wt Tryz.prog 9 x.1):∃ s:ByteArray,StE s cs:=by
 obtain⟨s,e,hy,_⟩:=DataW.trod_string Tryz.underlying9 h
 refine⟨s,e,?_⟩
 have:=hw s.size (by rw[hy];simp[DataW.weights])
 unfold reachBytes at this;unfold Big;omega
theorem Wt.arr {H:Type}{P:Program}{t e:TypeId}{n:Nat}{parts:List (DataW H)}(hu:P.underlying t=some (.array n e))(h:Wt P t (.agg parts)):∀ d∈parts,Wt P e d:=fun d hd m hm=>by
 refine h m ?_
 unfold DataW.weights
 rw[hu]
 exact Wt.all hd m hm
section
variable {H:Type}{enc:TypeId×Value->H}{W:World}
end
theorem qU5:Tryz.prog.cellsOf 65=4:=by kernel_rfl
theorem qZa:Tryz.prog.cellsOf 30=1:=by kernel_rfl
section
variable {H:Type}{enc:TypeId×Value->H}{w:World}
theorem zYj {fuel:Nat}{cs:List Value}{x:DataW H×List MemPlace}(h:DataW.trod enc Tryz.prog w 0 (fun _=>true) true fuel 65 cs=some x)(hw:Wt Tryz.prog 65 x.1):∃ o:Opr,OpE w w.heap.size o cs:=by
 obtain⟨xs,n,rfl,rfl,hl,hx,hf⟩:=DataW.trod_struct Tryz.underlying65 h
 rw[qU5]at hl
 match cs,hl with
 |[c0,c1,c2,c3],_=>
  match xs,hx with
  |[y0,y1,y2,y3],_=>
   have f0:DataW.trod enc Tryz.prog w 0 (fun _=>true) true n 30 (([c0,c1,c2,c3].drop 0).take (Tryz.prog.cellsOf 30))=some y0:=hf 0 _ rfl
   rw[qZa]at f0
   have f1:DataW.trod enc Tryz.prog w 0 (fun _=>true) true n 3 (([c0,c1,c2,c3].drop 1).take (Tryz.prog.cellsOf 3))=some y1:=hf 1 _ rfl
   rw[QW.2.1]at f1
   have f2:DataW.trod enc Tryz.prog w 0 (fun _=>true) true n 9 (([c0,c1,c2,c3].drop 2).take (Tryz.prog.cellsOf 9))=some y2:=hf 2 _ rfl
   rw[QW.1]at f2
   have f3:DataW.trod enc Tryz.prog w 0 (fun _=>true) true n 2 (([c0,c1,c2,c3].drop 3).take (Tryz.prog.cellsOf 2))=some y3:=hf 3 _ rfl
   rw[QW.2.2.1]at f3
   obtain⟨v1,l,e0,hL⟩:=XV (E:=StE) Tryz.underlying30 QW.1 (by decide) qXl (by decide) (show DataW.trod enc Tryz.prog w 0 (fun _=>true) true n 30 [c0]=some y0 from f0) (Wt.field Tryz.underlying65 hw (i:=0) rfl rfl)
    fun _ _ _ _ hy hwy=>qJd hy hwy
   obtain⟨a,e1,_,w1⟩:=DataW.trod_int Tryz.underlying3 (show DataW.trod enc Tryz.prog w 0 (fun _=>true) true n 3 [c1]=some y1 from f1)
   obtain⟨s,e2,hs⟩:=qJd (show DataW.trod enc Tryz.prog w 0 (fun _=>true) true n 9 [c2]=some y2 from f2) (Wt.field Tryz.underlying65 hw (i:=2) rfl rfl)
   obtain⟨b,e3,_,w3⟩:=DataW.trod_int Tryz.underlying2 (show DataW.trod enc Tryz.prog w 0 (fun _=>true) true n 2 [c3]=some y3 from f3)
   simp at e0 e1 e2 e3
   subst e0;subst e1;subst e2;subst e3
   exact⟨⟨l,a,s,b⟩,_,rfl,hL,Ju w1,Ju w3,hs⟩
end
section
variable {H:Type}{enc:TypeId×Value->H}{W:World}{base:Nat}{v:Value}{d:DataW H}{p:List MemPlace}
theorem okOps:Tryz.prog.readableRec 47=true/\47<Tryz.prog.types.size:=⟨by kernel_rfl,of_decide_eq_true (by kernel_rfl)⟩
theorem zYk:Tryz.prog.bytesOf 65=56:=by kernel_rfl
theorem zYl (hv:Value.okWide Tryz.prog W .any base 47 v)(h:DataW.Trod enc Tryz.prog W 0 (fun _=>true) true 47 v d p)(hw:Wt Tryz.prog 47 d) :
  ∃ l:List Opr,SlP W W.heap.size 4 (OpE W W.heap.size) v l:=by
 obtain⟨a,len,cap,rfl⟩:=okWide_slice Tryz.underlying47 hv
 obtain⟨fuel,hf⟩:=h
 obtain⟨v',l,e,hl⟩:=XV (E:=OpE W W.heap.size) Tryz.underlying47 qU5 (by decide) zYk (by decide) hf hw fun _ _ _ _ hy hwy=>zYj hy hwy
 simp[Value.cells]at e
 subst e
 exact⟨l,hl⟩
end
end Go.Proofs.YtbcoelggdikipaaGreat
