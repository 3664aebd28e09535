/- What the laws need. No condition but those that each lemma states. -/
import Derived.Lib.RowBridge
import Derived.Shelf.SlSortCmp.NoneTotal
import Derived.Shelf.Slices.CompactS
import Derived.Shelf.Slices.In.SortNone
import Derived.Shelf.Sort.Plain
import Derived.Sort.OwnSorted
import Derived.Test.YtbcoelggdikipaaGreatProg
import Derived.Test.YtbcoelggdikipaaGreatUy5
import Derived.Test.YtbcoelggdikipaaGreatUy3
import Derived.Test.YtbcoelggdikipaaGreatUy1
import Derived.Test.YtbcoelggdikipaaGreatUy4
import Derived.Test.YtbcoelggdikipaaGreatUy2
set_option maxRecDepth 100000
set_option maxHeartbeats 8000000
set_option linter.unusedSimpArgs false
namespace Go.Proofs.YtbcoelggdikipaaGreat
open Go.RowKit
theorem qZu (w:World):(zeroValue 96).run Tryz.prog w=.ok (.agg #[.string ByteArray.empty,.slice none 0 0,.slice none 0 0]) w:=by kernel_rfl
theorem X9 {P:Program}{ops:Array Oper}{rest:List Oper}{o:Oper}{a:Act}{Q:Exit->Act->World->Prop}{w:World}(hg:o.guard=none)(x:Operand)(t e:TypeId)
  (hop:o.op=.call { callee:=.builtin .clear,args:=#[x],argTypes:=#[t] }){z:Value}(ht:P.underlying t=some (.slice e)) (hv:∀ w,(zeroValue e).run P w=.ok z w) (h1:∀ u∈z.cells,u.oneCell'=true){b off n c sz:Nat}(hx:a.eval x=.slice (some ⟨b,off,none⟩) n c) (hsz:z.cells.size=sz) (hz:0<sz) (hn:0<n)
  (hc:∀ j,j<n*sz->(w.cell? ⟨b,off+j,none⟩).isSome=true) (hf:∀ j,j<n*sz->w.frozen? ⟨b,off+j,none⟩=false)
  (h:∀ vs:List Value,vs.length=n*sz->wpList P ops Q rest (a.put o.dst (.tuple #[])) (w.setCells b off vs)):wpList P ops Q (o :: rest) a w:=by
 refine wpList_plain hg fun K hK=>?_
 have hl:(Builtin.zeroCells z.cells n).toList.length=n*sz:=by simp[Builtin.zeroCells,hsz]
 have hst:=run_storeCells_cells (P:=P) b off (Builtin.zeroCells z.cells n).toList 0 w (by rw[hl];simpa using hc) (by rw[hl];simpa using hf) (by
  intro v hv'
  obtain⟨j,hj,rfl⟩:=List.getElem_of_mem hv'
  simp only[Builtin.zeroCells,Array.toList_map,List.getElem_map]
  have hm:∀ q,q % z.cells.size<z.cells.size:=fun q=>Nat.mod_lt _ (by omega)
  rw[getElem!_pos z.cells _ (hm _)]
  exact h1 _ (Array.getElem_mem _))
 simp only[Nat.add_zero]at hst
 obtain⟨m,rfl⟩:∃ m,n=m+1:=⟨n-1,by omega⟩
 have r1:(Builtin.clear_ #[t] o.type #[.slice (some ⟨b,off,none⟩) (m+1) c]).run P w=.ok (.tuple #[]) (w.setCells b off (Builtin.zeroCells z.cells (m+1)).toList):=by
  simp[Builtin.clear_,run_underlying ht,hv,hst]
 unfold Oper.wp execOp
 simp only[hop,resolve,invoke,builtin,Sem.run_bind,Sem.run_pure,Result.andThen_ok,List.map_toArray,List.map_cons,List.map_nil,hx,r1]
 exact hK _ _ (h _ hl)
def Ki (g:Nat)(lb:Array Value)(p:ByteArray->Bool)(w:World)(base:Nat):Prop:=
 (∀ args W,(callFunc g args).run Tryz.prog W=.ok (.enter g args) W) /\
 ∀ (x:ByteArray) (A A':Option Addr) (n c n' c':Nat) (W:World),x.size<=Big->Below base w W->Calls Tryz.prog g (#[.agg #[.string x,.slice A n c,.slice A' n' c']]++lb) W fun e w'=>e=.returned (.bool (p x))/\Below W.heap.size W w'
theorem Ki.kid {g:Nat}{lb:Array Value}{p:ByteArray->Bool}{w:World}{base:Nat}(h:Ki g lb p w base)(hb:base<=w.heap.size):Vq g lb p w:=⟨h.1,fun x A A' n c n' c' W hx hW=>h.2 x A A' n c n' c' W hx (hW.mono hb)⟩
def kp (p:ByteArray->Bool)(ks:List Kd):List Kd:=ks.filter fun y=>!p y.1
theorem VS {p:ByteArray->Bool}{l:List Kd}{k:Nat}{x:Kd}(h:l[k]?=some x):kp p (l.take (k+1))=kp p (l.take k)++(if p x.1 then [] else [x]):=by
 unfold kp
 rw[List.take_add_one,h,List.filter_append]
 cases hx:p x.1<;>simp[hx]
theorem set3 {css:List (List Value)}(h:∀ c∈css,c.length=3){i:Nat}{a b c:Value}(hi:i<css.length):((css.flatten.set (i*3) a).set (i*3+1) b).set (i*3+2) c=(css.set i [a,b,c]).flatten:=by
 have hlen:∀ q∈css.set i [a,b,c],q.length=3:=fun q hq=>by
  rcases List.mem_or_eq_of_mem_set hq with h'|h'
  ·exact h q h'
  ·rw[h'];rfl
 have hfl:=Ze css h
 apply List.ext_getElem?
 intro j
 have hd:j=j / 3*3+j % 3:=by omega
 have hm:j % 3<3:=by omega
 have a1:=QN css h (j / 3) (j % 3) hm
 have a2:=QN _ hlen (j / 3) (j % 3) hm
 rw[←hd]at a1 a2
 rw[a2,List.getElem?_set,List.getElem?_set,List.getElem?_set,List.getElem?_set,a1]
 by_cases hj:j / 3=i
 ·have hj3:j % 3=0∨j % 3=1∨j % 3=2:=by omega
  rw[if_pos hj.symm,if_pos hi]
  rcases hj3 with h3|h3|h3<;>rw[h3]
  ·rw[if_neg (by omega),if_neg (by omega),if_pos (by omega),if_pos (by simp[hfl];omega)];rfl
  ·rw[if_neg (by omega),if_pos (by omega),if_pos (by simp[hfl];omega)];rfl
  ·rw[if_pos (by omega),if_pos (by simp[hfl];omega)];rfl
 ·rw[if_neg (by omega),if_neg (by omega),if_neg (by omega),if_neg (fun e=>hj e.symm)]
def RowK (wr:World)(base:Nat)(g n cap:Nat)(E:Kd->List Value->Prop)(done:List Kd)(m:Nat)(css0:List (List Value)):Prop:=
 ∃ css:List (List Value),css.length=n/\(∀ c∈css,c.length=3)/\(∀ (q:Nat) x,done[q]?=some x->∃ cs,css[q]?=some cs/\E x cs/\cs.length=3)/\(∀ q:Nat,m<=q->css[q]?=css0[q]?)/\wr.ownsRow base 96 3 (.slice (some ⟨g,0,none⟩) n cap) n css.flatten
theorem RowK.cell {wr:World}{base g n cap m:Nat}{E:Kd->List Value->Prop}{done:List Kd}{css0:List (List Value)}(h:RowK wr base g n cap E done m css0){q:Nat}(hq:m<=q)(hn:q<n){cs:List Value}(hc:css0[q]?=some cs){i:Nat}{u:Value}(hi:cs[i]?=some u)(hi3:i<3):wr.cell? ⟨g,q*3+i,none⟩=some u:=by
 obtain⟨css,h1,h2,h3,h4,h5⟩:=h
 rw[h5.cellAt (q*3+i) (by omega),QN css h2 q i hi3,h4 q hq,hc]
 exact hi
theorem RowK.wr {wr:World}{base g n cap m:Nat}{E:Kd->List Value->Prop}{done:List Kd}{css0:List (List Value)}(h:RowK wr base g n cap E done m css0){j:Nat}(hj:j<n*3):(wr.cell? ⟨g,j,none⟩).isSome=true:=by
 obtain⟨css,h1,h2,h3,h4,h5⟩:=h
 rw[h5.cellAt j hj,List.getElem?_eq_getElem (show j<css.flatten.length by rw[Ze css h2,h1];exact hj)];rfl
theorem RowK.frz {wr:World}{base g n cap m:Nat}{E:Kd->List Value->Prop}{done:List Kd}{css0:List (List Value)}(h:RowK wr base g n cap E done m css0)(j:Nat):wr.frozen? ⟨g,j,none⟩=false:=by
 obtain⟨css,h1,h2,h3,h4,h5⟩:=h
 exact h5.frozenAt j
theorem RowK.keep {wr w':World}{base g n cap m:Nat}{E:Kd->List Value->Prop}{done:List Kd}{css0:List (List Value)}(h:RowK wr base g n cap E done m css0)(hk:w'.heap[g]?=wr.heap[g]?):RowK w' base g n cap E done m css0:=by
 obtain⟨css,h1,h2,h3,h4,h5,h6⟩:=h
 refine⟨css,h1,h2,h3,h4,h5,?_⟩
 rcases h6 with h6|⟨g',cap',cur,hv,hb,hg,r⟩
 ·exact .inl h6
 ·simp only[Value.slice.injEq,Option.some.injEq,Addr.mk.injEq]at hv
  obtain⟨⟨rfl,_⟩,_,rfl⟩:=hv
  exact .inr ⟨g,cap,cur,rfl,hb,by rw[hk];exact hg,r⟩
theorem RowK.skip {wr:World}{base g n cap m:Nat}{E:Kd->List Value->Prop}{done:List Kd}{css0:List (List Value)}(h:RowK wr base g n cap E done m css0):RowK wr base g n cap E done (m+1) css0:=by
 obtain⟨css,h1,h2,h3,h4,h5⟩:=h
 exact⟨css,h1,h2,h3,fun q hq=>h4 q (by omega),h5⟩
theorem RowK.put {wr:World}{base g n cap m:Nat}{E:Kd->List Value->Prop}{done:List Kd}{css0:List (List Value)}(h:RowK wr base g n cap E done m css0)(hd:done.length<=m)(hn:done.length<n){x:Kd}{a b c:Value}(hE:E x [a,b,c]) :
  RowK (((wr.setCell ⟨g,done.length*3,none⟩ a).setCell ⟨g,done.length*3+1,none⟩ b).setCell ⟨g,done.length*3+2,none⟩ c) base g n cap E (done++[x]) (m+1) css0:=by
 obtain⟨css,h1,h2,h3,h4,h5⟩:=h
 refine⟨css.set done.length [a,b,c],by simp[h1],fun q hq=>?_,fun q y hy=>?_,fun q hq=>?_,?_⟩
 ·rcases List.mem_or_eq_of_mem_set hq with h'|h'
  ·exact h2 q h'
  ·rw[h'];rfl
 ·rw[List.getElem?_append]at hy
  split at hy
  ·rename_i hlt
   obtain⟨cs,e1,e2⟩:=h3 q y hy
   exact⟨cs,by rw[List.getElem?_set,if_neg (by omega)];exact e1,e2⟩
  ·rename_i hlt
   have hq:q=done.length:=by
    rcases Nat.lt_or_ge q (done.length+1) with h'|h'
    ·omega
    ·rw[List.getElem?_eq_none (by simp;omega)]at hy;cases hy
   subst hq
   simp at hy;subst hy
   exact⟨_,by rw[List.getElem?_set,if_pos rfl,if_pos (by omega)],hE,rfl⟩
 ·rw[List.getElem?_set,if_neg (by omega)];exact h4 q (by omega)
 ·rw[←set3 h2 (by omega)]
  exact (((h5.stored _ a).1.stored _ b).1.stored _ c).1
theorem Q6 (b:Nat):∀ (vs:List Value) (o:Nat) (w:World),(w.setCells b o vs).heap.size=w.heap.size
 |[],_,_=>rfl
 |v :: r,o,w=>by rw[World.setCells,Q6 b r];simp[World.setCell]
theorem Zw (b:Nat):∀ (vs:List Value) (o:Nat) (w:World){q:Nat},q≠b->(w.setCells b o vs).heap[q]?=w.heap[q]?
 |[],_,_,_,_=>rfl
 |v :: r,o,w,q,h=>by rw[World.setCells,Zw b r _ _ h];exact Below.heap_setCell _ _ _ _ h
theorem Zx {base:Nat}{w:World}(b:Nat):∀ (vs:List Value) (o:Nat) (W:World),base<=b->Below base w W->Below base w (W.setCells b o vs)
 |[],_,_,_,h=>h
 |v :: r,o,W,hb,h=>by rw[World.setCells];exact Zx b r _ _ hb (h.setCell (p:=⟨b,o,none⟩) hb v)
theorem VT (p:ByteArray->Bool)(ks:List Kd):(idxI (fun y:Kd=>p y.1) ks=-1/\kp p ks=ks)∨∃ k:Nat,idxI (fun y:Kd=>p y.1) ks=(k:Int)/\k<ks.length/\kp p (ks.take k)=ks.take k/\kp p (ks.take (k+1))=ks.take k:=by
 unfold idxI
 cases hf:ks.findIdx? (fun y:Kd=>p y.1) with
 |none=>
  refine .inl ⟨rfl,?_⟩
  rw[List.findIdx?_eq_none_iff]at hf
  exact List.filter_eq_self.2 fun y hy=>by simp[hf y hy]
 |some k=>
  obtain⟨hk,hp,hn⟩:=List.findIdx?_eq_some_iff_getElem.1 hf
  have e1:kp p (ks.take k)=ks.take k:=List.filter_eq_self.2 fun y hy=>by
   obtain⟨j,hj,rfl⟩:=List.getElem_of_mem hy
   simp at hj
   have:=hn j (by omega)
   simpa using this
  refine .inr ⟨k,rfl,hk,e1,?_⟩
  rw[VS (List.getElem?_eq_getElem hk),e1,if_pos hp];simp
theorem KR (p:ByteArray->Bool)(gf:Nat)(lb:Array Value)(ks:List Kd)(v:Value)(w:World)(base:Nat)(hbase:base<=w.heap.size)(h:OwnD w base 96 3 KdA (fun b=>base<=b) v ks)(hl:ks.length<=900000)(ht:Ki gf lb p w base) :
  Calls Tryz.prog 73 #[v,.func (.func gf) #[] lb] w fun e w'=>∃ v',e=.returned v'/\SlA w' (fun b=>base<=b/\b<w'.heap.size) 3 (KdA w' (fun b=>base<=b/\b<w'.heap.size)) v' (kp p ks)/\Below base w w':=by
 have HI:=hid (Kw p gf lb ks v w ((OwnD.sl h KdA.mon (by unfold Big;omega)).imp (Below.refl _ _) (Nat.le_refl _) fun x _ cs ⟨ve,vk,e1,e2,e3⟩=>⟨ve,vk,e1,e2,(qQ8 _ ve vk).2 (Zi (fun _ _=>rfl) (fun b hb=>hb.2) _ ve vk e3)⟩) (ht.kid hbase))
 go_enter Tryz.func73,Tryz.ntmps73
 obtain⟨A,cap,hv⟩:=OwnP.shape h
 have H:=hid h
 clear h
 subst hv
 go_wp2_with fail
 refine HI.out.mono ?_
 rcases VT p ks with⟨hi,hk⟩|⟨i0,hi,hi0,hk0,hk1⟩
 ·rintro e w1 ⟨rfl,hb1⟩
  rw[hi]
  have HB:=hid hb1
  have HK:=hid hk
  clear hi hk hb1
  go_wp2_with fail
  go_ret
  refine⟨_,rfl,?_,HB.out.mono hbase⟩
  rw[HK.out]
  have h2:=OwnD.grow H.out KdA.mon HB.out
  exact (OwnP.sla h2 (by unfold Big;omega)).up (fun _ _=>rfl) (fun b hb=>⟨hb.1,hb.2.1⟩) fun x _ cs hx=>KdA.mon.up (fun _ _=>rfl) (fun b hb=>⟨hb.1,hb.2.1⟩) hx
 ·rintro e w1 ⟨rfl,hb1⟩
  rw[hi]
  have hne:ks≠[]:=by rintro rfl;simp at hi0
  obtain⟨g,cap',hv',hg1,hg2,_⟩:=OwnP.form H.out hne
  simp only[Value.slice.injEq]at hv'
  obtain⟨rfl,_,rfl⟩:=hv'
  have hs1:=hb1.size
  have HB:=hid hb1
  have hR0:∃ css0,RowK w1 base g ks.length cap (KdA w (fun b=>base<=b/\b<w.heap.size/\b≠g)) (kp p (ks.take (i0+1))) (i0+1) css0/\∀ (q:Nat) x,ks[q]?=some x->∃ cs,css0[q]?=some cs/\KdA w (fun b=>base<=b/\b<w.heap.size/\b≠g) x cs:=by
   obtain⟨css,k1,k2⟩:=OwnP.keep (w':=w1) H.out fun q hq=>HB.out.block q (OwnP.lt H.out q hq).2
   have k1':Encs 3 (KdA w (fun b=>base<=b/\b<w.heap.size/\b≠g)) ks css:=by
    refine⟨k1.1,fun j x hx=>?_⟩
    obtain⟨cs,a1,a2,a3⟩:=k1.2 j x hx
    exact⟨cs,a1,KdA.mon.up (fun _ _=>rfl) (fun b hb=>⟨hb.1,hb.2.1,fun e=>hb.2.2 (by rw[e];rfl)⟩) a2,a3⟩
   refine⟨css,⟨css,k1.1,k1.len,fun q x hx=>?_,fun _ _=>rfl,k2⟩,fun q x hx=>?_⟩
   ·rw[hk1,List.getElem?_take]at hx
    split at hx
    ·exact k1'.2 q x hx
    ·cases hx
   ·obtain⟨cs,a1,a2,_⟩:=k1'.2 q x hx
    exact⟨cs,a1,a2⟩
  obtain⟨css0,hR,hC⟩:=hR0
  have HR:=hid hR
  have HC:=hid hC
  have hn1:((i0:Int)=-1)=False:=eq_false (by omega)
  have hn2:((i0:Int)==-1)=false:=beq_eq_false_iff_ne.2 (by omega)
  have hL0:(kp p (ks.take (i0+1))).length=i0:=by rw[hk1];simp;omega
  clear hi hk0 hk1 hR hC hb1 hne
  go_wp2_with fail
  go_loopw [5,6] (fun i j wr=>∃ m:Nat,m<=ks.length/\j=.int .i64 m/\i=.int .i64 ((kp p (ks.take m)).length:Nat)/\(kp p (ks.take m)).length<m/\RowK wr base g ks.length cap (KdA w (fun b=>base<=b/\b<w.heap.size/\b≠g)) (kp p (ks.take m)) m css0/\Below base w wr/\w.heap.size<=wr.heap.size/\(∀ b,b<w.heap.size->b≠g->wr.heap[b]?=w.heap[b]?)) (fun _ j _=>ks.length-(intOf j).toNat)
  case atStart=>exact⟨i0+1,hi0,by go_num,by rw[hL0],by rw[hL0];omega,HR.out,HB.out.mono hbase,hs1,fun b hb _=>HB.out.block b hb⟩
  case round=>
   obtain⟨m,hm,rfl,rfl,hlm,hrow,hbw,hsz,hkb⟩:=hrel
   have HROW:=hid hrow
   have HBW:=hid hbw
   have HKB:=hid hkb
   by_cases hlt:m<ks.length
   ·obtain⟨⟨key,t⟩,hx⟩:∃ x,ks[m]?=some x:=⟨_,List.getElem?_eq_getElem hlt⟩
    obtain⟨cs,hcs,ve',vk',rfl,hkey,hrd⟩:=HC.out m _ hx
    obtain⟨A3,n3,A4,n4,rfl,rfl⟩:=Qt hrd
    have e0:wr.cell? ⟨g,m*3,none⟩=some (.string key):=HROW.out.cell (Nat.le_refl _) hlt hcs (i:=0) rfl (by omega)
    have e1:wr.cell? ⟨g,m*3+1,none⟩=some (.slice A3 t.es.length n3):=HROW.out.cell (Nat.le_refl _) hlt hcs (i:=1) rfl (by omega)
    have e2:wr.cell? ⟨g,m*3+2,none⟩=some (.slice A4 t.ks.length n4):=HROW.out.cell (Nat.le_refl _) hlt hcs (i:=2) rfl (by omega)
    have HE:Hid (KdA w (fun b=>base<=b/\b<w.heap.size/\b≠g) (key,t) [.string key,.slice A3 t.es.length n3,.slice A4 t.ks.length n4]):=⟨_,_,rfl,hkey,hrd⟩
    have HT:=hid (VS (p:=p) hx)
    obtain⟨L,HL⟩:∃ L,Hid (kp p (ks.take m)=L):=⟨_,rfl⟩
    rw[HL.out]at HT HROW hlm ⊢
    have HKEY:=hid hkey
    clear hrow hbw hkb hx hcs hkey hrd
    have hb3:base<=wr.heap.size:=by omega
    have HBA:=hid (HBW.out.alloc (Nat.le_trans hbase hsz) (.cells #[.string key,.slice A3 t.es.length n3,.slice A4 t.ks.length n4] 96))
    have HS:Hid (∀ w',Below (wr.heap.size+1) (wr.alloc (.cells #[.string key,.slice A3 t.es.length n3,.slice A4 t.ks.length n4] 96)) w'->w'.cell? ⟨wr.heap.size,0,none⟩=some (.string key)/\w'.cell? ⟨wr.heap.size,1,none⟩=some (.slice A3 t.es.length n3)/\w'.cell? ⟨wr.heap.size,2,none⟩=some (.slice A4 t.ks.length n4)/\w'.heap[g]?=wr.heap[g]?):=fun w' hb'=>by
     refine⟨?_,?_,?_,?_⟩
     ·rw[hb'.cell (p:=⟨wr.heap.size,0,none⟩) (by simp)];simp
     ·rw[hb'.cell (p:=⟨wr.heap.size,1,none⟩) (by simp)];simp
     ·rw[hb'.cell (p:=⟨wr.heap.size,2,none⟩) (by simp)];simp
     ·exact (hb'.block g (by omega)).trans (Qh (by omega))
    obtain⟨eg,htc⟩:=ht
    have HCALL:=hid (htc key A3 A4 t.es.length n3 t.ks.length n4 (wr.alloc (.cells #[.string key,.slice A3 t.es.length n3,.slice A4 t.ks.length n4] 96)) HKEY.out HBA.out)
    clear htc
    have hgl:g<wr.heap.size:=by omega
    cases hp:p key
    ·have HT2:Hid (kp p (ks.take (m+1))=L++[(key,t)]):=hid (by have:=HT.out;simpa[hp] using this)
     rw[hp]at HCALL
     clear hp HT
     go_wp2_with (go_at_fn gf;refine HCALL.out.mono ?_;rintro e w3 ⟨rfl,hb3'⟩;obtain⟨p0,p1,p2,hg3⟩:=HS.out w3 (hb3'.mono (by simp));have hrow3:=hid (HROW.out.keep hg3);obtain⟨x0,s0⟩:=Option.isSome_iff_exists.1 (hrow3.out.wr (j:=L.length*3) (by omega));obtain⟨x1,s1⟩:=Option.isSome_iff_exists.1 (hrow3.out.wr (j:=L.length*3+1) (by omega));obtain⟨x2,s2⟩:=Option.isSome_iff_exists.1 (hrow3.out.wr (j:=L.length*3+2) (by omega));have f0:=hrow3.out.frz (L.length*3);have f1:=hrow3.out.frz (L.length*3+1);have f2:=hrow3.out.frz (L.length*3+2))
     have hs3:=hb3'.size
     simp only[World.size_alloc]at hs3
     have HB3:=hid (HBA.out.trans (hb3'.mono (by simp;omega)))
     have hK3:∀ b,b<wr.heap.size->w3.heap[b]?=wr.heap[b]?:=fun b hb=>(hb3'.block b (by simp;omega)).trans (Qh hb)
     go_roundw
     case rel=>
      refine⟨m+1,by omega,by go_num,?_,?_,?_,((HB3.out.setCell (p:=⟨g,L.length*3,none⟩) hg1 _).setCell (p:=⟨g,L.length*3+1,none⟩) hg1 _).setCell (p:=⟨g,L.length*3+2,none⟩) hg1 _,by simp[World.setCell];omega,fun b hb hbg=>?_⟩
      ·rw[HT2.out];simp
      ·rw[HT2.out];simp;omega
      ·rw[HT2.out];exact hrow3.out.put (by omega) (by omega) HE.out
      ·exact (Below.heap_setCell _ _ _ _ hbg).trans ((Below.heap_setCell _ _ _ _ hbg).trans ((Below.heap_setCell _ _ _ _ hbg).trans ((hK3 b (by omega)).trans (HKB.out b hb hbg))))
     case measure=>simp[intOf];omega
    ·have HT2:Hid (kp p (ks.take (m+1))=L):=hid (by have:=HT.out;simpa[hp] using this)
     rw[hp]at HCALL
     clear hp HT
     go_wp2_with (go_at_fn gf;refine HCALL.out.mono ?_;rintro e w3 ⟨rfl,hb3'⟩;obtain⟨p0,p1,p2,hg3⟩:=HS.out w3 (hb3'.mono (by simp)))
     have hs3:=hb3'.size
     simp only[World.size_alloc]at hs3
     have HB3:=hid (HBA.out.trans (hb3'.mono (by simp;omega)))
     have hK3:∀ b,b<wr.heap.size->w3.heap[b]?=wr.heap[b]?:=fun b hb=>(hb3'.block b (by simp;omega)).trans (Qh hb)
     go_roundw
     case rel=>
      refine⟨m+1,by omega,by go_num,?_,?_,?_,HB3.out,by omega,fun b hb hbg=>(hK3 b (by omega)).trans (HKB.out b hb hbg)⟩
      ·rw[HT2.out]
      ·rw[HT2.out];omega
      ·rw[HT2.out];exact (HROW.out.keep hg3).skip
     case measure=>simp[intOf];omega
   ·obtain rfl:m=ks.length:=by omega
    have hmi:¬(ks.length:Int)<(ks.length:Int):=by omega
    obtain⟨L,HL⟩:∃ L,Hid (kp p (ks.take ks.length)=L):=⟨_,rfl⟩
    have HL2:Hid (kp p ks=L):=by have:=HL.out;rwa [List.take_of_length_le (Nat.le_refl _)]at this
    rw[HL.out]at hlm HROW ⊢
    obtain⟨css,_,_,_,_,hown⟩:=hrow
    have hcap:ks.length<=cap:=by
     rcases hown.2 with⟨h0,_⟩|⟨g',cap',cur,hv',_,_,hnc,_⟩
     ·simp at h0
     ·simp only[Value.slice.injEq]at hv'
      rw[hv'.2.2];exact hnc
    clear hown hbw hkb
    go_wp2_with (refine X9 rfl (.tmp 38) _ 96 rfl Tryz.underlying23 qZu (by simp[Value.cells,Value.oneCell']) rfl rfl (by decide) ?_ ?_ ?_ ?_)
    ·omega
    ·exact fun j hj=>HROW.out.wr (by omega)
    ·exact fun j _=>HROW.out.frz _
    intro vs hvs
    go_wp2_with fail
    go_ret
    refine⟨_,rfl,?_,Zx g vs _ _ hg1 HBW.out⟩
    rw[HL2.out]
    obtain⟨css,k1,k2,k3,_,k5⟩:=HROW.out
    refine⟨_,_,rfl,by omega,by unfold Big;omega,fun hn=>⟨g,0,rfl,⟨hg1,by rw[Q6];omega⟩,fun j x hx=>?_⟩⟩
    obtain⟨cs,c1,c2,c3⟩:=k3 j x hx
    have hj:=(List.getElem?_eq_some_iff.1 hx).1
    refine⟨cs,KdA.mon.up (fun b hb=>(Zw g vs _ _ hb.2.2).trans (HKB.out b hb.2.1 hb.2.2)) (fun b hb=>⟨hb.1,by rw[Q6];have:=hb.2.1;omega⟩) c2,c3,fun i u hi=>?_⟩
    have hi3:i<3:=by rw[←c3];exact (List.getElem?_eq_some_iff.1 hi).1
    rw[World.cell?_setCells_out g vs _ _ _ (fun _ _=>.inl (by simp;omega)),show 0+j*3+i=j*3+i by omega,k5.cellAt (j*3+i) (by omega),QN css k2 j i hi3,c1]
    exact hi
theorem Ja (l:List ByteArray)(s:ByteArray)(v:Value)(w:World)(B:Nat)(h:SlP w B 1 StE v l) :
  Calls Tryz.prog 121 #[v,.string s] w fun e w'=>e=.returned (.int .i64 (idxI (fun x=>decide (s=x)) l))/\w=w':=by
 obtain⟨A,n,rfl,b1,b2,b3⟩:=h
 unfold Big at b2
 go_enter Tryz.func121,Tryz.ntmps121
 go_wp2_with fail
 go_loop [8] (fun i=>∃ k:Nat,k<=l.length/\i=.int .i64 k/\Hid (∀ (j:Nat) y,j<k->l[j]?=some y->(fun x=>decide (s=x)) y=false)) (fun i=>l.length-(intOf i).toNat)
 case atStart=>exact⟨0,Nat.zero_le _,rfl,fun j y hj=>absurd hj (Nat.not_lt_zero _)⟩
 case round=>
  obtain⟨k,hk,rfl,hrel⟩:=hrel
  by_cases hlt:k<l.length
  ·obtain⟨x,hx⟩:∃ x,l[k]?=some x:=⟨_,List.getElem?_eq_getElem hlt⟩
   obtain⟨b,off,rfl,hbB,hc⟩:=b3 (by rintro rfl;simp at hlt)
   obtain⟨cs,⟨rfl,hok⟩,_,hu⟩:=hc k _ hx
   have e0:w.cell? ⟨b,off+k,none⟩=some (.string x):=by simpa using hu 0 _ rfl
   have HX:=hid hx
   clear hu hc b3 hx
   by_cases he:s=x
   ·have HQ:Hid ((fun x=>decide (s=x)) x=true):=by unfold Hid;simpa using he
    have hq:(s.toList==x.toList)=true:=by rw[he];simp
    clear he
    go_wp2_with fail
    go_ret
    exact⟨QB (Xh hrel.out HX.out HQ.out).symm,rfl⟩
   ·have HQ:Hid ((fun x=>decide (s=x)) x=false):=by unfold Hid;simpa using he
    have hq:(s.toList==x.toList)=false:=by simp[QD];exact he
    clear he
    go_wp2_with fail
    go_round
    case rel=>
     refine⟨k+1,by omega,by go_num,fun j y hj hy=>?_⟩
     by_cases hjk:j=k
     ·subst hjk;have h2:=HX.out;rw[hy]at h2;cases h2;exact HQ.out
     ·exact hrel.out j y (by omega) hy
    case measure=>simp[intOf];omega
  ·obtain rfl:k=l.length:=by omega
   go_wp2_with fail
   go_ret
   exact⟨QB (Yq hrel.out).symm,rfl⟩
theorem YL (l:List ByteArray)(s:ByteArray)(v:Value)(w:World)(h:SlP w w.heap.size 1 StE v l) :
  Calls Tryz.prog 75 #[v,.string s] w fun e w'=>e=.returned (.bool (l.any fun x=>decide (s=x)))/\w=w':=by
 have hbd:=K9 (fun x=>decide (s=x)) l
 have HA:=hid (JL (fun x=>decide (s=x)) l)
 obtain⟨A,n,rfl,b1,b2,b3⟩:=h
 unfold Big at b2
 go_enter Tryz.func75,Tryz.ntmps75
 go_wp2_with fail
 refine (Ja l s _ w w.heap.size ⟨A,n,rfl,b1,by unfold Big;omega,b3⟩).mono ?_
 rintro e w1 ⟨rfl,rfl⟩
 go_wp2_with fail
 go_ret
 exact⟨Qe HA.out,rfl⟩
def offK (keys:List ByteArray)(x:ByteArray):Bool:=!(keys.any fun z=>decide (x=z))
theorem JD (keys:List ByteArray)(x:ByteArray)(A A':Option Addr)(n c n' c':Nat)(B:Nat)(Al:Option Addr)(nl:Nat)(w:World)(hc:w.cell? ⟨B,0,none⟩=some (.slice Al keys.length nl))(hB:B<w.heap.size)(hk:SlP w w.heap.size 1 StE (.slice Al keys.length nl) keys) :
  Calls Tryz.prog 74 #[.agg #[.string x,.slice A n c,.slice A' n' c'],.pointer (some ⟨B,0,none⟩)] w fun e w'=>e=.returned (.bool (offK keys x))/\Below w.heap.size w w':=by
 have hne:B≠w.heap.size:=by omega
 have HC:=hid (YL keys x _ (w.alloc (.cells #[.string x,.slice A n c,.slice A' n' c'] 96)) (hk.imp ((Below.refl _ w).alloc (Nat.le_refl _) _) (by simp) fun _ _ _ h=>h))
 go_enter Tryz.func74,Tryz.ntmps74
 go_wp2_with fail
 refine HC.out.mono ?_
 rintro e w1 ⟨rfl,rfl⟩
 go_wp2_with fail
 go_ret
 exact⟨rfl,by go_grown⟩
def YM (t:Tr)(keys:List ByteArray):Tr:=if t.right 5 then .mk [] (kp (offK keys) t.ks) else .mk [] []
theorem VU (t:Tr)(keys:List ByteArray)(ve vk vl:Value)(w:World)(h:t.rd w w.heap.size ve vk)(hk:SlP w w.heap.size 1 StE vl keys)(hN:t.sz<=900000) :
  Calls Tryz.prog 36 #[.agg #[ve,vk],vl] w (RetT w (YM t keys)):=by
 have HC:Hid (∀ w',Below w.heap.size w w'->t.rd w' w'.heap.size ve vk):=fun w' hb=>Qj hb hb.size _ _ _ h
 have HK:Hid (∀ w',Below w.heap.size w w'->SlP w' w'.heap.size 1 StE vl keys):=fun w' hb=>hk.imp hb hb.size fun _ _ _ h=>h
 obtain⟨A3,n3,A4,n4,rfl,rfl⟩:=Ql h
 obtain⟨Al,nl,rfl,_⟩:=hk
 have hkl:t.ks.length<=900000:=by obtain⟨es,ks⟩:=t;rw[Tr.sz]at hN;have:=ZZ ks;show ks.length<=_;omega
 have hb0:Below w.heap.size w (((w.alloc (.cells #[.slice A3 t.es.length n3,.slice A4 t.ks.length n4] 25)).alloc (.cells #[.slice Al keys.length nl] 30)).alloc (.cells #[.slice none 0 0,.slice none 0 0] 25)):=(((Below.refl _ w).alloc (Nat.le_refl _) _).alloc (by simp) _).alloc (by simp;omega) _
 have HX:Hid (∀ W,Below (w.heap.size+3) (((w.alloc (.cells #[.slice A3 t.es.length n3,.slice A4 t.ks.length n4] 25)).alloc (.cells #[.slice Al keys.length nl] 30)).alloc (.cells #[.slice none 0 0,.slice none 0 0] 25)) W->(Below w.heap.size w W/\w.heap.size+3<=W.heap.size/\W.heap[w.heap.size]?=some (.cells #[.slice A3 t.es.length n3,.slice A4 t.ks.length n4] 25 (0,0))/\W.heap[w.heap.size+1]?=some (.cells #[.slice Al keys.length nl] 30 (0,0))/\W.heap[w.heap.size+2]?=some (.cells #[.slice none 0 0,.slice none 0 0] 25 (0,0)))):=fun W hW=>
  ⟨hb0.trans (hW.mono (by omega)),by have:=hW.size;simpa using this,(hW.block _ (by omega)).trans ((Qh (by simp;omega)).trans ((Qh (by simp)).trans (Qg rfl))),(hW.block _ (by omega)).trans ((Qh (by simp)).trans (Qg (by simp))),(hW.block _ (by omega)).trans (Qg (by simp))⟩
 clear h
 have hn1:w.heap.size+2≠w.heap.size:=by omega
 have hn2:w.heap.size+1≠w.heap.size:=by omega
 go_enter Tryz.func36,Tryz.ntmps36
 go_wp2_with fail
 refine (YW t _ _ _ (HC.out _ hb0)).mono ?_
 rintro e w1 ⟨rfl,hb1⟩
 have HB1:=hid (hb1.mono (show w.heap.size+3<=_ by simp))
 obtain⟨hB1,hs1,g0,g1,g2⟩:=HX.out _ HB1.out
 have HG0:=hid g0
 have HG2:=hid g2
 have HBB:=hid hB1
 have c0:w1.cell? ⟨w.heap.size,0,none⟩=some (.slice A3 t.es.length n3):=Qa (i:=0) g0
 have c1:w1.cell? ⟨w.heap.size,1,none⟩=some (.slice A4 t.ks.length n4):=Qa (i:=1) g0
 have k0:w1.cell? ⟨w.heap.size+2,0,none⟩=some (.slice none 0 0):=Qa (i:=0) g2
 have k1:w1.cell? ⟨w.heap.size+2,1,none⟩=some (.slice none 0 0):=Qa (i:=1) g2
 have z0:=Qc (i:=0) g2
 have z1:=Qc (i:=1) g2
 clear g0 g1 g2 hb1 hB1 hb0
 cases hr:t.right 5
 ·have HTT:Hid (YM t keys=.mk [] []):=by unfold Hid YM;rw[hr];rfl
  clear hr
  go_wp2_with fail
  have hW0:=Qd (i:=1) (Qd (i:=0) HG2.out (.slice none 0 0)) (.slice none 0 0)
  have r0:=(Qa (i:=0) hW0).trans (show _=some (.slice none 0 0) by simp)
  have r1:=(Qa (i:=1) hW0).trans (show _=some (.slice none 0 0) by simp)
  refine bodyPost_ret (v:=.agg #[.slice none 0 0,.slice none 0 0]) (by simp[results,Tryz.results36,go_sem,r0,r1]) rfl ⟨_,_,rfl,by rw[HTT.out];exact Xo _ _,(HBB.out.setCell (p:=⟨w.heap.size+2,0,none⟩) (by simp) _).setCell (p:=⟨w.heap.size+2,1,none⟩) (by simp) _⟩
 ·have HTT:Hid (YM t keys=.mk [] (kp (offK keys) t.ks)):=by unfold Hid YM;rw[hr];rfl
  clear hr
  go_wp2_with fail
  refine (JC t _ _ _ (HC.out _ HBB.out) hN).mono ?_
  rintro e w2 ⟨A5,n5,vk5,rfl,ho2,hb2⟩
  obtain⟨A6,n6,hv6⟩:=OwnP.shape ho2
  subst hv6
  have HB2:=hid (HB1.out.trans (hb2.mono hs1))
  obtain⟨hB2,hs2,g0,g1,g2⟩:=HX.out _ HB2.out
  have HO2:=hid ho2
  have HG0':=hid g0
  have HG1':=hid g1
  have HG2':=hid g2
  have HBB2:=hid hB2
  have hs12:=hb2.size
  clear c0 c1 k0 k1 z0 z1
  have c0:w2.cell? ⟨w.heap.size,0,none⟩=some (.slice A3 t.es.length n3):=Qa (i:=0) g0
  have c1:w2.cell? ⟨w.heap.size,1,none⟩=some (.slice A4 t.ks.length n4):=Qa (i:=1) g0
  have y0:=Qc (i:=0) g0
  have y1:=Qc (i:=1) g0
  clear g0 g1 g2 ho2 hb2 hB2
  have hW0:=hid (Qd (i:=1) (Qd (i:=0) HG0'.out (.slice A5 t.es.length n5)) (.slice A6 t.ks.length n6))
  have HBV:=hid ((HBB2.out.setCell (p:=⟨w.heap.size,0,none⟩) (by simp) (.slice A5 t.es.length n5)).setCell (p:=⟨w.heap.size,1,none⟩) (by simp) (.slice A6 t.ks.length n6))
  have HKV:Hid (∀ b,b≠w.heap.size->((w2.setCell ⟨w.heap.size,0,none⟩ (.slice A5 t.es.length n5)).setCell ⟨w.heap.size,1,none⟩ (.slice A6 t.ks.length n6)).heap[b]?=w2.heap[b]?):=fun b hb=>(Below.heap_setCell _ _ _ _ hb).trans (Below.heap_setCell _ _ _ _ hb)
  have HSV:Hid (((w2.setCell ⟨w.heap.size,0,none⟩ (.slice A5 t.es.length n5)).setCell ⟨w.heap.size,1,none⟩ (.slice A6 t.ks.length n6)).heap.size=w2.heap.size):=by unfold Hid;simp[World.setCell]
  have c8:((w2.setCell ⟨w.heap.size,0,none⟩ (.slice A5 t.es.length n5)).setCell ⟨w.heap.size,1,none⟩ (.slice A6 t.ks.length n6)).cell? ⟨w.heap.size,1,none⟩=some (.slice A6 t.ks.length n6):=(Qa (i:=1) hW0.out).trans (by simp)
  go_wp2_with fail
  generalize ((w2.setCell ⟨w.heap.size,0,none⟩ (.slice A5 t.es.length n5)).setCell ⟨w.heap.size,1,none⟩ (.slice A6 t.ks.length n6))=V at *
  have HKV':=HKV.out
  have hSV:=HSV.out
  have HOV:OwnD V w1.heap.size 96 3 KdA (fun b=>w1.heap.size<=b) (.slice A6 t.ks.length n6) t.ks:=(OwnP.keep HO2.out fun q hq=>HKV' q (by have:=(OwnP.lt HO2.out q hq).1;omega)).imp fun x _ cs hx=>KdA.mon.up (fun b hb=>HKV' b (by have:=hb.1;omega)) (fun b hb=>⟨hb.1,by rw[hSV];exact hb.2.1,hb.2.2⟩) hx
  have HT:Ki 74 #[.pointer (some ⟨w.heap.size+1,0,none⟩)] (offK keys) V w1.heap.size:=
   ⟨enters_of Tryz.func74 (by kernel_rfl) rfl,fun x A A' n c n' c' W _ hW=>JD keys x A A' n c n' c' (w.heap.size+1) Al nl W (Qa (i:=0) ((hW.block (w.heap.size+1) (by omega)).trans ((HKV' _ (by omega)).trans HG1'.out))) (by have:=hW.size;omega) (HK.out W (HBV.out.trans (hW.mono (by omega))))⟩
  refine (KR (offK keys) _ _ t.ks _ V w1.heap.size (by omega) HOV hkl HT).mono ?_
  rintro e w3 ⟨v7,rfl,hr7,hb7⟩
  have HR7:=hid hr7
  obtain⟨A7,n7,hv7,_⟩:=hr7
  subst hv7
  have hs3:=hb7.size
  have HG3:=hid ((hb7.block (w.heap.size+2) (by omega)).trans ((HKV' (w.heap.size+2) (by omega)).trans HG2'.out))
  have HB3:=hid (HBV.out.trans (hb7.mono (by omega)))
  have k0:w3.cell? ⟨w.heap.size+2,0,none⟩=some (.slice none 0 0):=Qa (i:=0) HG3.out
  have k1:w3.cell? ⟨w.heap.size+2,1,none⟩=some (.slice none 0 0):=Qa (i:=1) HG3.out
  have z0:=Qc (i:=0) HG3.out
  have z1:=Qc (i:=1) HG3.out
  clear hb7 HOV HT HKV' hW0 c8 c0 c1 y0 y1
  go_wp2_with fail
  have hW0:=Qd (i:=1) (Qd (i:=0) HG3.out (.slice none 0 0)) (.slice A7 (kp (offK keys) t.ks).length n7)
  have r0:=(Qa (i:=0) hW0).trans (show _=some (.slice none 0 0) by simp)
  have r1:=(Qa (i:=1) hW0).trans (show _=some (.slice A7 (kp (offK keys) t.ks).length n7) by simp)
  refine bodyPost_ret (v:=.agg #[.slice none 0 0,.slice A7 (kp (offK keys) t.ks).length n7]) (by simp[results,Tryz.results36,go_sem,r0,r1]) rfl ⟨_,_,rfl,?_,(HB3.out.setCell (p:=⟨w.heap.size+2,0,none⟩) (by simp) _).setCell (p:=⟨w.heap.size+2,1,none⟩) (by simp) _⟩
  rw[HTT.out,Zh]
  have hK3:∀ b,w1.heap.size<=b->((w3.setCell ⟨w.heap.size+2,0,none⟩ (.slice none 0 0)).setCell ⟨w.heap.size+2,1,none⟩ (.slice A7 (kp (offK keys) t.ks).length n7)).heap[b]?=w3.heap[b]?:=fun b hb=>(Below.heap_setCell _ _ _ _ (by simp;omega)).trans (Below.heap_setCell _ _ _ _ (by simp;omega))
  have hS3:((w3.setCell ⟨w.heap.size+2,0,none⟩ (.slice none 0 0)).setCell ⟨w.heap.size+2,1,none⟩ (.slice A7 (kp (offK keys) t.ks).length n7)).heap.size=w3.heap.size:=by simp[World.setCell]
  exact⟨SlA.nil,HR7.out.up (fun b hb=>hK3 b hb.1) (fun b hb=>⟨by have:=hb.1;omega,by rw[hS3];exact hb.2⟩) fun x _ cs hx=>KdA.mon.up (fun b hb=>hK3 b hb.1) (fun b hb=>⟨by have:=hb.1;omega,by rw[hS3];exact hb.2⟩) hx⟩
end Go.Proofs.YtbcoelggdikipaaGreat
namespace Go.Proofs.YtbcoelggdikipaaGreat
open Go.RowKit Go.Sort
def toBy (s:ByteArray):List UInt8:=s.data.toList
def ofBy (l:List UInt8):ByteArray:=⟨l.toArray⟩
theorem Vs (s:ByteArray):ofBy (toBy s)=s:=rfl
def srtL (ds:List ByteArray):List ByteArray:=((ds.map toBy).mergeSort fun x y=>decide (x<=y)).map ofBy
def cmpL (ds:List ByteArray):List ByteArray:=(Lib.compact (ds.map toBy)).map ofBy
theorem J4 {α:Type}(f:α->Value)(l:List α):(l.map fun x=>[f x]).flatten=l.map f:=by
 induction l with
 |nil=>rfl
 |cons x l ih=>simp[ih]
theorem J5 {w:World}{base:Nat}{e:TypeId}{v:Value}{ds:List ByteArray}(h:OwnP w base e 1 StE v ds):(v=.slice none 0 0/\ds=[]) ∨
  ∃ b cap cur,v=.slice (some ⟨b,0,none⟩) ds.length cap/\base<=b/\w.heap[b]?=some (.cells cur e (0,0))/\ds.length<=cap/\cap<=maxLen/\cur.size=cap*1/\cur.toList.take (ds.map toBy).length=(ds.map toBy).map encStr/\∀ x∈ds,x.size<=Big:=by
 obtain⟨css,h1,h2,h3⟩:=h
 rcases h3 with⟨rfl,hn⟩|⟨b,cap,cur,rfl,hb,hg,hnc,hm,hcs,ht⟩
 ·exact .inl ⟨rfl,List.eq_nil_of_length_eq_zero hn⟩
 ·refine .inr ⟨b,cap,cur,rfl,hb,hg,hnc,hm,hcs,?_,fun x hx=>?_⟩
  ·have hcss:css=ds.map fun x=>[Value.string x]:=by
    apply List.ext_getElem?
    intro j
    by_cases hj:j<ds.length
    ·obtain⟨cs,hcs,⟨hcv,_⟩,_⟩:=h1.2 j ds[j] (List.getElem?_eq_getElem hj)
     rw[hcs,List.getElem?_map,List.getElem?_eq_getElem hj,hcv];rfl
    ·rw[List.getElem?_eq_none (by rw[h1.1];omega),List.getElem?_eq_none (by simp;omega)]
   rw[Nat.mul_one,hcss,J4]at ht
   rw[List.length_map,ht,List.map_map]
   rfl
  ·obtain⟨j,hj⟩:=List.getElem?_of_mem hx
   obtain⟨cs,_,⟨_,hr⟩,_⟩:=h1.2 j x hj
   exact hr
theorem qZd {w:World}{base:Nat}{e:TypeId}{v:Value}{ts:List (List UInt8)}(h:w.ownsRow base e 1 v ts.length (ts.map encStr))(hs:∀ x∈ts,(ofBy x).size<=Big):OwnP w base e 1 StE v (ts.map ofBy):=by
 refine⟨ts.map fun l=>[encStr l],⟨by simp,fun j x hx=>?_⟩,?_⟩
 ·rw[List.getElem?_map]at hx
  obtain⟨y,hy,rfl⟩:=Option.map_eq_some_iff.1 hx
  exact⟨[encStr y],by rw[List.getElem?_map,hy];rfl,⟨rfl,hs y (List.mem_of_getElem? hy)⟩,rfl⟩
 ·rw[J4,List.length_map];exact h
theorem Jp (ds:List ByteArray)(v:Value)(w:World)(base:Nat)(h:OwnP w base 9 1 StE v ds)(hl:ds.length<=900000)(hbase:base<=w.heap.size) :
  Calls Tryz.prog 129 #[v] w fun e w'=>e=.returned (.tuple #[])/\OwnP w' base 9 1 StE v (srtL ds)/\Below base w w':=by
 rcases J5 h with⟨rfl,rfl⟩|⟨b,cap,cur,rfl,hb,hg,hnc,hm,hcs,ht,hz⟩
 ·refine (Any.slices_Sort_string_none Tryz.sortStr none 0 w).mono ?_
  rintro e w' ⟨rfl,rfl⟩
  exact⟨rfl,by simpa[srtL] using OwnP.nil,Below.refl _ _⟩
 ·have hlt:b<w.heap.size:=(Array.getElem?_eq_some_iff.1 hg).1
  have hH:Holds encStr w b 0 (ds.map toBy).toArray:=holds_of_block hg ht
  have hcon:=Any.slices_Sort_string Tryz.sortStr b 0 cap (ds.map toBy) w hH hlt (by rw[List.length_map];omega)
  rw[List.length_map]at hcon
  refine Calls.mono hcon ?_
  rintro e w' ⟨rfl,n,os,rfl⟩
  have hp:((ds.map toBy).mergeSort fun x y=>decide (x<=y)).Perm (ds.map toBy):=List.mergeSort_perm _ _
  have hrow:=ownsRow_sorted (n:=n) (os:=os) (ss:=ds.map toBy) (ts:=(ds.map toBy).mergeSort fun x y=>decide (x<=y)) hp.length_eq hb hg (by rw[List.length_map];exact hnc) hm hcs
  rw[←hp.length_eq]at hrow
  refine⟨rfl,?_,(Below.refl base w).grown (grownBy_sorted _) hbase (fun g hg=>by cases hg;exact hb)⟩
  have hlen:((ds.map toBy).mergeSort fun x y=>decide (x<=y)).length=ds.length:=by rw[hp.length_eq,List.length_map]
  have:=qZd hrow (fun x hx=>by
   obtain⟨y,hy,rfl⟩:=List.mem_map.1 (hp.subset hx)
   exact hz y hy)
  rw[hlen]at this
  exact this
theorem YO (ds:List ByteArray)(v:Value)(w:World)(base:Nat)(h:OwnP w base 9 1 StE v ds)(hl:ds.length<=900000)(hbase:base<=w.heap.size) :
  Calls Tryz.prog 130 #[v] w fun e w'=>∃ v',e=.returned v'/\OwnP w' base 9 1 StE v' (cmpL ds)/\Below base w w':=by
 rcases J5 h with⟨rfl,rfl⟩|⟨b,cap,cur,rfl,hb,hg,hnc,hm,hcs,ht,hz⟩
 ·refine (Any.slices_Compact_string_empty Tryz.compactStr none 0 w).mono ?_
  rintro e w' ⟨rfl,rfl⟩
  exact⟨_,rfl,by simpa[cmpL,Lib.compact,Lib.compactUpTo] using OwnP.nil,Below.refl _ _⟩
 ·have hlt:b<w.heap.size:=(Array.getElem?_eq_some_iff.1 hg).1
  have hH:Holds encStr w b 0 (ds.map toBy).toArray:=holds_of_block hg ht
  have hcon:=Any.slices_Compact_string Tryz.compactStr b 0 cap (ds.map toBy) w hH (by rw[List.length_map];omega) (by rw[List.length_map];exact hnc)
  rw[List.length_map]at hcon
  refine Calls.mono hcon ?_
  rintro e w' ⟨rfl,n,rfl⟩
  have hcl:=Lib.compact_length_le (ds.map toBy)
  rw[List.length_map]at hcl
  have hm2:∀ x∈Lib.compact (ds.map toBy),x∈ds.map toBy:=fun x hx=>by
   unfold Lib.compact Lib.compactUpTo at hx
   obtain⟨j,hj,rfl⟩:=List.mem_map.1 hx
   have hj':j<(ds.map toBy).length:=List.mem_range.1 (List.mem_filter.1 hj).1
   rw[getElem!_pos _ j (by simpa using hj')]
   simpa using List.getElem_mem hj'
  have hcm:cmpL ds=(Lib.compact (ds.map toBy)).map ofBy:=rfl
  rw[hcm]
  generalize Lib.compact (ds.map toBy)=ts at hcl hm2 ⊢
  refine⟨_,rfl,?_,?_⟩
  ·have hF:(ts++List.replicate (ds.length-ts.length) []).length=ds.length:=by simp;omega
   have htk:=take_putCells cur (ts++List.replicate (ds.length-ts.length) []) (by rw[hF,hcs];omega)
   have hheap:(putRow encStr (Sort.ahead w n) b 0 (ts++List.replicate (ds.length-ts.length) []).toArray).heap[b]?=some (.cells (putCells encStr 0 (ts++List.replicate (ds.length-ts.length) []).toArray cur) 9 (0,0)):=by
    simp[putRow,mapBlock,Sort.ahead,Array.getElem?_modify,hg,onCells]
   refine qZd (v:=.slice (some ⟨b,0,none⟩) ts.length cap) ⟨by simp,.inr ⟨b,cap,_,rfl,hb,hheap,by omega,hm,by simp[putCells,hcs],?_⟩⟩ (fun x hx=>by
    obtain⟨y,hy,rfl⟩:=List.mem_map.1 (hm2 x hx)
    exact hz y hy)
   have:=congrArg (List.take ts.length) htk
   rw[List.take_take,hF,Nat.min_eq_left hcl,←List.map_take,List.take_left]at this
   rw[Nat.mul_one];exact this
  ·refine (Below.refl base w).grown (w':=putRow encStr (Sort.ahead w n) b 0 (ts++List.replicate (ds.length-ts.length) []).toArray) (row:=some b) ⟨rfl,rfl,rfl,by simp,fun k hk hne=>?_⟩ hbase (fun g hg=>by cases hg;exact hb)
   have:b≠k:=fun e=>hne (by rw[e])
   simp[putRow,mapBlock,Sort.ahead,Array.getElem?_modify,this]
end Go.Proofs.YtbcoelggdikipaaGreat
namespace Go.Proofs.YtbcoelggdikipaaGreat
open Go.RowKit
theorem J6 (l:List ByteArray):(srtL l).length=l.length:=by unfold srtL;rw[List.length_map,(List.mergeSort_perm _ _).length_eq,List.length_map]
end Go.Proofs.YtbcoelggdikipaaGreat
namespace Go.Proofs
open Go.Shelf
def Tryz.sortRun_ren:Go.Shelf.Ren:=⟨fun|6=>183|15=>167|14=>209|28=>200|29=>201|20=>218|21=>219|22=>220|23=>221|24=>222|25=>223|26=>224|27=>225|46=>227|47=>212|48=>213|49=>228|50=>229|57=>230|n=>n,fun|22=>160|24=>167|25=>211|3=>3|39=>193|0=>0|53=>226|55=>228|4=>4|46=>219|45=>218|50=>204|5=>5|9=>9|66=>236|70=>240|76=>249|77=>250|n=>n,fun|n=>n⟩
theorem Tryz.sortRun:Go.Proofs.SlLaysF0.n6 Tryz.prog Tryz.sortRun_ren:={
 mixed:=by kernel_rfl
 f6:=⟨Tryz.f183.name,by decide,Tryz.func183.trans (congrArg some (by kernel_rfl))⟩
 f14:=⟨Tryz.f209.name,by decide,Tryz.func209.trans (congrArg some (by kernel_rfl))⟩
 f15:=Tryz.func167.trans (congrArg some (by kernel_rfl))
 f20:=⟨Tryz.f218.name,by decide,Tryz.func218.trans (congrArg some (by kernel_rfl))⟩
 f21:=⟨Tryz.f219.name,by decide,Tryz.func219.trans (congrArg some (by kernel_rfl))⟩
 f22:=⟨Tryz.f220.name,by decide,Tryz.func220.trans (congrArg some (by kernel_rfl))⟩
 f23:=⟨Tryz.f221.name,by decide,Tryz.func221.trans (congrArg some (by kernel_rfl))⟩
 f24:=⟨Tryz.f222.name,by decide,Tryz.func222.trans (congrArg some (by kernel_rfl))⟩
 f25:=⟨Tryz.f223.name,by decide,Tryz.func223.trans (congrArg some (by kernel_rfl))⟩
 f26:=⟨Tryz.f224.name,by decide,Tryz.func224.trans (congrArg some (by kernel_rfl))⟩
 f27:=⟨Tryz.f225.name,by decide,Tryz.func225.trans (congrArg some (by kernel_rfl))⟩
 f28:=Tryz.func200.trans (congrArg some (by kernel_rfl))
 f29:=Tryz.func201.trans (congrArg some (by kernel_rfl))
 f46:=⟨Tryz.f227.name,by decide,Tryz.func227.trans (congrArg some (by kernel_rfl))⟩
 f47:=Tryz.func212.trans (congrArg some (by kernel_rfl))
 f48:=Tryz.func213.trans (congrArg some (by kernel_rfl))
 f49:=⟨Tryz.f228.name,by decide,Tryz.func228.trans (congrArg some (by kernel_rfl))⟩
 f50:=⟨Tryz.f229.name,by decide,Tryz.func229.trans (congrArg some (by kernel_rfl))⟩
 f57:=⟨Tryz.f230.name,by decide,Tryz.func230.trans (congrArg some (by kernel_rfl))⟩
 t0:=Tryz.underlying0
 a0:=Tryz.isAgg0
 z0:=Tryz.sizeOf0
 v0:=Tryz.zeroValue0
 t3:=Tryz.underlying3
 a3:=Tryz.isAgg3
 z3:=Tryz.sizeOf3
 v3:=Tryz.zeroValue3
 t4:=Tryz.underlying4
 a4:=Tryz.isAgg4
 z4:=Tryz.sizeOf4
 v4:=Tryz.zeroValue4
 t5:=Tryz.underlying5
 a5:=Tryz.isAgg5
 z5:=Tryz.sizeOf5
 v5:=Tryz.zeroValue5
 t9:=Tryz.underlying9
 a9:=Tryz.isAgg9
 z9:=Tryz.sizeOf9
 v9:=Tryz.zeroValue9
 t22:=Tryz.underlying160
 a22:=Tryz.isAgg160
 z22:=Tryz.sizeOf160
 v22:=Tryz.zeroValue160
 t25:=Tryz.underlying211
 a25:=Tryz.isAgg211
 z25:=Tryz.sizeOf211
 v25:=Tryz.zeroValue211
 t39:=Tryz.underlying193
 a39:=Tryz.isAgg193
 z39:=Tryz.sizeOf193
 v39:=Tryz.zeroValue193
 t45:=Tryz.underlying218
 a45:=Tryz.isAgg218
 z45:=Tryz.sizeOf218
 v45:=Tryz.zeroValue218
 t46:=Tryz.underlying219
 a46:=Tryz.isAgg219
 z46:=Tryz.sizeOf219
 v46:=Tryz.zeroValue219
 t50:=Tryz.underlying204
 a50:=Tryz.isAgg204
 z50:=Tryz.sizeOf204
 v50:=Tryz.zeroValue204
 t53:=Tryz.underlying226
 a53:=Tryz.isAgg226
 z53:=Tryz.sizeOf226
 v53:=Tryz.zeroValue226
 t55:=Tryz.underlying228
 a55:=Tryz.isAgg228
 z55:=Tryz.sizeOf228
 v55:=Tryz.zeroValue228
 t66:=Tryz.underlying236
 a66:=Tryz.isAgg236
 z66:=Tryz.sizeOf236
 v66:=Tryz.zeroValue236
 t70:=Tryz.underlying240
 a70:=Tryz.isAgg240
 z70:=Tryz.sizeOf240
 v70:=Tryz.zeroValue240
 t76:=Tryz.underlying249
 a76:=Tryz.isAgg249
 z76:=Tryz.sizeOf249
 v76:=Tryz.zeroValue249
 t77:=Tryz.underlying250
 a77:=Tryz.isAgg250
 z77:=Tryz.sizeOf250
 v77:=Tryz.zeroValue250 }
end Go.Proofs
namespace Go.Proofs.YtbcoelggdikipaaGreat
open Go.RowKit Go.Sort
theorem Vu {w:World}{g n:Nat}{os:Array Obj}{cur:Array Value}{e:TypeId}{fr:Nat×Nat}(F:Array Value)(hb:w.heap[g]?=some (.cells cur e fr)) :
  (grow (putRow id (Sort.ahead w n) g 0 F) os).heap[g]?=some (.cells (putCells id 0 F cur) e fr):=by
 have hg:g<w.heap.size:=(Array.getElem?_eq_some_iff.1 hb).1
 rw[heap_grow_old _ _ (by simpa using hg)]
 simp[putRow,mapBlock,Sort.ahead,Array.getElem?_modify,hb,onCells]
theorem XK {w:World}{g n:Nat}{os:Array Obj}(F:Array Value):w.grownBy (grow (putRow id (Sort.ahead w n) g 0 F) os) (some g):=by
 refine⟨rfl,rfl,rfl,by simp,fun k hk hne=>?_⟩
 rw[heap_grow_old _ _ (by simpa using hk)]
 have:g≠k:=fun e=>hne (by rw[e])
 simp[putRow,mapBlock,Sort.ahead,Array.getElem?_modify,this]
def encR {α:Type}(en:α->Int×Int)(x:α):List Value:=[.int .i64 (en x).1,.int .i64 (en x).2]
theorem Yx {α:Type}[Inhabited α](en:α->Int×Int)(l:List α)(j:Nat)(hj:j<l.length*2):(l.map (encR en)).flatten[j]?=some ((encR en l[j / 2]!)[j % 2]!):=by
 have hm:j % 2<2:=Nat.mod_lt _ (by omega)
 have hd:j=j / 2*2+j % 2:=by omega
 have hf:=QN (sz:=2) (l.map (encR en)) (fun cs h=>by obtain⟨x,_,rfl⟩:=List.mem_map.1 h;rfl) (j / 2) (j % 2) hm
 rw[←hd]at hf
 have hlt:j / 2<l.length:=by omega
 rw[hf,List.getElem?_map,List.getElem?_eq_getElem hlt]
 simp only[Option.map_some,Option.bind_some]
 rw[getElem!_pos l (j / 2) hlt]
 rcases (show j % 2=0∨j % 2=1 by omega) with e|e<;>rw[e]<;>rfl
theorem Yy {α:Type}[Inhabited α](en:α->Int×Int)(cf:α->α->Int)(hO:SWO (ltOf cf))(g:Nat)(eg:∀ args w,(callFunc g args).run Tryz.prog w=.ok (.enter g args) w)
  (hc:∀ (x y:α) (W:World),Calls Tryz.prog g #[.agg #[.int .i64 (en x).1,.int .i64 (en x).2],.agg #[.int .i64 (en y).1,.int .i64 (en y).2]] W fun e w'=>e=.returned (.int .i64 (cf x y))/\∃ q os',w'=grow (W.drewN q) os')
  (ds:List α) (v:Value) (w:World) (base:Nat) (h:OwnP w base 167 2 RuE v (ds.map en)) (hl:ds.length<=900000) (hbase:base<=w.heap.size) :
  Calls Tryz.prog 183 #[v,.func (.func g) #[] #[]] w fun e w'=>e=.returned (.tuple #[]) /\
   ∃ ts:List α,ts.Perm ds/\ts.Pairwise (fun a b=>0<=cf b a)/\OwnP w' base 167 2 RuE v (ts.map en)/\Below base w w':=by
 obtain⟨css,h1,h2,h3⟩:=h
 rcases h3 with⟨rfl,hn⟩|⟨b,cap,cur,rfl,hb,hg,hnc,hm,hcs,ht⟩
 ·obtain rfl:ds=[]:=by simpa using hn
  refine (AnyF.slices_SortFunc_none Tryz.sortRun none 0 (.func (.func g) #[] #[]) w).mono ?_
  rintro e w' ⟨rfl,rfl⟩
  exact⟨rfl,[],List.Perm.refl _,List.Pairwise.nil,OwnP.nil,Below.refl _ _⟩
 ·have hlt:b<w.heap.size:=(Array.getElem?_eq_some_iff.1 hg).1
  have hlen:(ds.map en).length=ds.length:=List.length_map ..
  rw[hlen]at h2 hnc ht ⊢
  have hcss:css=ds.map (encR en):=by
   apply List.ext_getElem?
   intro j
   by_cases hj:j<ds.length
   ·obtain⟨cs,hcs,⟨hcv,_⟩,_⟩:=h1.2 j (en ds[j]) (by rw[List.getElem?_map,List.getElem?_eq_getElem hj];rfl)
    rw[hcs,List.getElem?_map,List.getElem?_eq_getElem hj,hcv];rfl
   ·rw[List.getElem?_eq_none (by rw[h1.1,hlen];omega),List.getElem?_eq_none (by simp;omega)]
  have hok:∀ x∈ds,I64 (en x).1/\I64 (en x).2:=fun x hx=>by
   obtain⟨j,hj⟩:=List.getElem?_of_mem hx
   obtain⟨cs,_,⟨_,hr⟩,_⟩:=h1.2 j (en x) (by rw[List.getElem?_map,hj];rfl)
   exact hr
  have hH:HoldsK (encR en) 2 w b 0 ds.toArray:=by
   intro j hj
   have hj:j<ds.length*2:=by simpa using hj
   refine⟨?_,by simp[World.frozen?,hg]⟩
   rw[get_flatK _ _ _ _ (by simpa using hj),Nat.zero_add,show (w.cell? ⟨b,j,none⟩)=cur[j]? from by simp[World.cell?,hg]]
   have hf:=Yx en ds j hj
   rw[←hcss,←ht,List.getElem?_take_of_lt hj,Array.getElem?_toList]at hf
   rw[hf];simp
  have hcon:=AnyQ.slices_SortFunc Tryz.sortRun 2 Tryz.isAgg167 Tryz.sizeOf167 (encR en) (fun _=>rfl) (fun x u hu=>by simp[encR]at hu;rcases hu with rfl|rfl<;>rfl) cf hO g #[] b 0 cap ds.toArray w eg
   (fun m os dk _ x y=>hc x y _) hH hlt (by simp;omega)
  have hcon':Calls Tryz.prog 183 #[.slice (some ⟨b,0,none⟩) ds.length cap,.func (.func g) #[] #[]] w _:=hcon
  refine hcon'.mono ?_
  rintro e w' ⟨rfl,d',n,os,hp,hs,rfl⟩
  have hsz:d'.size=ds.length:=by simpa using hp.1
  have hperm:d'.toList.Perm ds:=by
   have:=hp.2.2
   rw[show ds.toArray.extract 0 ds.toArray.size=ds.toArray by simp,show d'.extract 0 ds.toArray.size=d' by rw[show ds.toArray.size=d'.size by simp[hsz]];simp]at this
   simpa using this
  refine⟨rfl,d'.toList,hperm,?_,⟨d'.toList.map (encR en),⟨by simp,fun j x hx=>?_⟩,?_⟩,?_⟩
  ·rw[List.pairwise_iff_getElem]
   intro i j hi hj hij
   have hj':j<d'.size:=by simpa using hj
   have h4:=hs i j (Nat.zero_le _) hij (by simp;omega)
   rw[getElem!_pos d' i (by omega),getElem!_pos d' j hj']at h4
   simp only[ltOf,decide_eq_false_iff_not,Int.not_lt]at h4
   simpa using h4
  ·rw[List.getElem?_map]at hx
   obtain⟨y,hy,rfl⟩:=Option.map_eq_some_iff.1 hx
   refine⟨encR en y,by rw[List.getElem?_map,hy];rfl,⟨rfl,hok y (hperm.subset (List.mem_of_getElem? hy))⟩,rfl⟩
  ·have hlm:(d'.toList.map en).length=ds.length:=by simp[hsz]
   rw[hlm]
   refine⟨by rw[Ze (sz:=2) _ (fun cs h=>by obtain⟨x,_,rfl⟩:=List.mem_map.1 h;rfl)];simp[hsz],.inr ⟨b,cap,_,rfl,hb,Vu _ hg,hnc,hm,by simp[putCells,hcs],?_⟩⟩
   apply List.ext_getElem?
   intro j
   by_cases hj:j<ds.length*2
   ·have hjc:j<cur.size:=by rw[hcs];have:=Nat.mul_le_mul_right 2 hnc;omega
    rw[List.getElem?_take_of_lt hj,Array.getElem?_toList,Yx en d'.toList j (by simp[hsz];omega)]
    simp only[putCells,Array.getElem?_mapIdx,Array.getElem?_eq_getElem hjc,Option.map_some]
    rw[if_pos ⟨Nat.zero_le _,by simp[hsz];omega⟩,Nat.sub_zero,id,get_flatK _ _ _ _ (by rw[hsz];exact hj)]
    simp only[Array.getElem!_toList]
   ·rw[List.getElem?_take_eq_none (by omega),List.getElem?_eq_none (by rw[Ze (sz:=2) _ (fun cs h=>by obtain⟨x,_,rfl⟩:=List.mem_map.1 h;rfl)];simp[hsz];omega)]
  ·exact (Below.refl base w).grown (XK _) hbase (fun g hg=>by cases hg;exact hb)
theorem Yj (x y:Int):ltOf cmpI x y=decide (x<y):=by
 unfold ltOf cmpI
 by_cases h1:x<y
 ·simp[h1]
 ·by_cases h2:y<x<;>simp[h1,h2]
theorem swoI:SWO (ltOf cmpI) where
 irrefl x:=by rw[Yj];simp
 trans x y z h1 h2:=by rw[Yj]at *;simp at *;omega
 ntrans x y z h1 h2:=by rw[Yj]at *;simp at *;omega
theorem YE (a b:Int):0<=cmpI b a↔a<=b:=by
 unfold cmpI;split<;>(try split)<;>omega
theorem Vx (x y:Int×Int)(W:World):Calls Tryz.prog 188 #[.agg #[.int .i64 x.1,.int .i64 x.2],.agg #[.int .i64 y.1,.int .i64 y.2]] W fun e w'=>e=.returned (.int .i64 (cmpI x.1 y.1))/\∃ q os',w'=grow (W.drewN q) os':=by
 go_enter Tryz.func188,Tryz.ntmps188
 go_wp2_with (go_at_call 185;refine (ZD _ _ _).mono ?_;rintro e w' ⟨rfl,rfl⟩)
 go_ret
 exact⟨rfl,0,_,by rw[alloc_eq_grow,alloc_eq_grow,grow_grow];rfl⟩
def dup (n:Int):Int×Int:=(n,n)
theorem qZj {ns ts:List Int}(hn:∀ x∈ns,numB x=true)(hp:ts.Perm ns)(hs:ts.Pairwise fun a b=>a<=b):joinL (ts.map dup)=ofL ns:=by
 have hn':∀ x∈ns,1<=x/\x<=1099511627776:=fun x hx=>by simpa[numB] using hn x hx
 obtain⟨a1,a2⟩:=ZP hn'
 obtain⟨b1,b2⟩:=YC (l:=ts.map dup) (fun r hr=>by
  obtain⟨x,hx,rfl⟩:=List.mem_map.1 hr
  have:=hn' x (hp.subset hx)
  exact⟨this.1,Int.le_refl _,this.2⟩) (List.pairwise_map.2 hs)
 refine Yz _ _ none none b1 a1 fun n=>?_
 rw[b2,Bool.eq_iff_iff,a2]
 unfold hasL
 rw[List.any_eq_true]
 constructor
 ·rintro⟨r,hr,h⟩
  obtain⟨x,hx,rfl⟩:=List.mem_map.1 hr
  have h2:x<=n/\n<=x:=by
   have h3:(decide (x<=n)&&decide (n<=x))=true:=h
   simpa using h3
  obtain rfl:n=x:=by omega
  exact hp.subset hx
 ·intro h
  exact⟨dup n,List.mem_map.2 ⟨n,hp.symm.subset h,rfl⟩,by simp[dup,inR]⟩
theorem qZk (ns:List Int)(v:Value)(w:World)(h:SlP w w.heap.size 1 InE v ns)(hn:∀ x∈ns,numB x=true)(hN:ns.length<=400000) :
  Calls Tryz.prog 158 #[v] w fun e w'=>∃ v',e=.returned (.tuple #[v',.int .i64 0])/\OwnP w' w.heap.size 167 2 RuE v' (ofL ns)/\Below w.heap.size w w':=by
 obtain⟨A,c,rfl,b1,b2,b3⟩:=h
 unfold Big at b2
 go_enter Tryz.func158,Tryz.ntmps158
 go_wp2_with fail
 go_loopw [4,9] (fun v i wr=>∃ k:Nat,k<=ns.length/\i=.int .i64 k/\OwnP wr w.heap.size 167 2 RuE v ((ns.take k).map dup)/\Below w.heap.size w wr) (fun _ i _=>ns.length-(intOf i).toNat)
 case atStart=>exact⟨0,Nat.zero_le _,rfl,OwnP.nil,Below.refl _ _⟩
 case round=>
  obtain⟨k,hk,rfl,hown,hb⟩:=hrel
  have hsz:=hb.size
  by_cases hlt:k<ns.length
  ·obtain⟨x,hx⟩:∃ x,ns[k]?=some x:=⟨_,List.getElem?_eq_getElem hlt⟩
   obtain⟨b,off,rfl,hbB,hc⟩:=b3 (by rintro rfl;simp at hlt)
   obtain⟨cs,⟨rfl,hok⟩,_,hu⟩:=hc k _ hx
   have e0:wr.cell? ⟨b,off+k,none⟩=some (.int .i64 x):=(hb.cell hbB).trans (by simpa using hu 0 _ rfl)
   have HB:=hid (hn x (List.mem_of_getElem? hx))
   have HX:Hid ((ns.take (k+1)).map dup=(ns.take k).map dup++[dup x]):=by unfold Hid;rw[QS hx,List.map_append];rfl
   have HRE:Hid (RuE (dup x) [.int .i64 x,.int .i64 x]):=⟨rfl,hok,hok⟩
   have HL:Hid (((ns.take k).map dup).length + [dup x].length<=Few):=by unfold Hid Few;simp;omega
   clear hu hx hc b3 hok
   go_wp2_with (first|(go_at_call 187;refine (Zd _ _).mono ?_;rw[HB.out];rintro e w' ⟨rfl,rfl⟩)|(at_builtin;with_reducible refine Qi rfl (.tmp 16) (.tmp 20) _ rfl eiRun (by decide) (by decide) (fun _ _ h=>h.one) rfl (hown.alloc _) rfl (SlP.one (x:=dup x) HRE.out rfl _ rfl) HL.out (by rw[World.size_alloc];omega) ?_;intro v1 w1 hown1 hb1 _))
   go_roundw
   case rel=>exact⟨k+1,by omega,by go_num,by rw[HX.out];exact hown1,hb.trans (((Below.refl _ _).alloc (by omega) _).trans hb1)⟩
   case measure=>simp[intOf];omega
  ·obtain rfl:k=ns.length:=by omega
   rw[List.take_of_length_le (Nat.le_refl _)]at hown
   have HC:Hid (∀ W base v,OwnP W base 167 2 RuE v (ns.map dup)->base<=W.heap.size->Calls Tryz.prog 183 #[v,.func (.func 188) #[] #[]] W fun e w'=>e=.returned (.tuple #[]) /\
    ∃ ts:List Int,ts.Perm ns/\ts.Pairwise (fun a b=>a<=b)/\OwnP w' base 167 2 RuE v (ts.map dup)/\Below base W w'):=fun W base v ho hbs=>
     (Yy dup cmpI swoI 188 (enters_of Tryz.func188 (by kernel_rfl) rfl) (fun x y W=>Vx (dup x) (dup y) W) ns v W base ho (by omega) hbs).mono fun e w' ⟨he,ts,h1,h2,h3,h4⟩=>
      ⟨he,ts,h1,h2.imp fun h=>(YE _ _).1 h,h3,h4⟩
   have HN:=hid hn
   clear hn b3
   go_wp2_with fail
   refine (HC.out _ _ _ hown hsz).mono ?_
   rintro e w1 ⟨rfl,ts,hp,hs,ho1,hb1⟩
   have HJ:=hid (qZj HN.out hp hs)
   have hs1:=hb1.size
   have hlen:ts.length=ns.length:=hp.length_eq
   have hsl:=ho1.sl (by rw[List.length_map,hlen];unfold Big;omega)
   have hro:QK (ts.map dup):=fun r hr=>by
    obtain⟨x,hx,rfl⟩:=List.mem_map.1 hr
    have:=HN.out x (hp.subset hx)
    simp[numB]at this
    simp[dup];omega
   have HRO:=hid hro
   have HL1:Hid ((ts.map dup).length<=900000):=by unfold Hid;rw[List.length_map,hlen];omega
   clear hp hs hro hlen ho1 hown
   go_wp2_with fail
   refine (YD (ts.map dup) _ w1 hsl HL1.out HRO.out).mono ?_
   rintro e w2 ⟨v2,rfl,ho2,hb2⟩
   rw[HJ.out]at ho2
   go_wp2_with fail
   go_ret2
   exact⟨_,rfl,ho2.mono (by omega),(hb.trans hb1).trans (hb2.mono (by omega))⟩
end Go.Proofs.YtbcoelggdikipaaGreat
namespace Go.Proofs.YtbcoelggdikipaaGreat
open Go.RowKit
def OfA (l:List Dt)(w:World)(k:Nat)(wr:World):Prop:=
 ∃ vs:Nat->Value,Rows4 wr (w.heap.size+1) w.heap.size 183 2 1 InE vs (fun i=>numsL (l.take k) i)/\Below w.heap.size w wr
def OfB (l:List Dt)(w1:World)(k:Nat)(wr:World):Prop:=
 ∃ ps:Nat->Value,wr.heap[w1.heap.size]?=some (.cells #[ps 0,ps 1,ps 2,ps 3] 162 (0,0)) /\
  (∀ j,j<4->OwnP wr (w1.heap.size+1) 167 2 RuE (ps j) (if j<k then ofL (numsL l (j:Int)) else []))/\Below w1.heap.size w1 wr
theorem qZl (l:List Dt)(vl:Value)(w:World)(h:SlP w w.heap.size 2 DtE vl l)(hR:∀ d∈l,d.right=true)(hN:l.length<=100000) :
  Calls Tryz.prog 113 #[vl] w fun e w'=>∃ v,e=.returned (.tuple #[v,.int .i64 0])/\OwnP w' w.heap.size 45 3 SpE v (ctxOf l)/\Below w.heap.size w w':=by
 obtain⟨A,n,rfl,b1,b2,b3⟩:=h
 unfold Big at b2
 go_enter Tryz.func113,Tryz.ntmps113
 go_wp2_with fail
 go_loopw [12] (fun i wr=>∃ k:Nat,k<=l.length/\i=.int .i64 k/\OfA l w k wr) (fun i _=>l.length-(intOf i).toNat)
 case atStart=>exact⟨0,Nat.zero_le _,rfl,fun _=>.slice none 0 0,Rows4.start (Qg rfl) (by omega),(Below.refl _ w).alloc (Nat.le_refl _) _⟩
 case round=>
  obtain⟨k,hk,rfl,vs,hr4,hb⟩:=hrel
  have hsz:=hb.size
  have hsz2:w.heap.size<wr.heap.size:=(Array.getElem?_eq_some_iff.1 hr4.arr).1
  have hsz4:w.heap.size≠wr.heap.size:=by omega
  by_cases hlt:k<l.length
  ·obtain⟨⟨dc,num⟩,hx⟩:∃ x,l[k]?=some x:=⟨_,List.getElem?_eq_getElem hlt⟩
   obtain⟨b,off,rfl,hbB,hc⟩:=b3 (by rintro rfl;simp at hlt)
   obtain⟨cs,⟨rfl,hok⟩,_,hu⟩:=hc k _ hx
   have e0:wr.cell? ⟨b,off+k*2,none⟩=some (.int .i64 dc):=(hb.cell hbB).trans (hu 0 _ rfl)
   have e1:wr.cell? ⟨b,off+k*2+1,none⟩=some (.int .i64 num):=(hb.cell hbB).trans (hu 1 _ rfl)
   have hri:=hR _ (List.mem_of_getElem? hx)
   have hbd:(0<=dc/\dc<4)/\1<=num/\num<=1099511627776:=by simpa[Dt.right,and_assoc] using hri
   have HRI:=hid hri
   have HR4:=hid hr4
   obtain⟨d,rfl⟩:∃ d:Nat,dc=(d:Int):=⟨dc.toNat,by omega⟩
   have hd4:d<4:=by omega
   have hdi:(d:Int)<4:=by omega
   have HPD:Hid ((fun i:Nat=>numsL (l.take (k+1)) i)=fun i=>if i=d then numsL (l.take k) d++[num] else numsL (l.take k) i):=by
    unfold Hid;funext i
    rw[YT hx]
    by_cases e:i=d
    ·subst e;rw[if_pos rfl,if_pos rfl]
    ·rw[if_neg e,if_neg (by show ¬(d:Int)=(i:Int);omega),List.append_nil]
   have HL:Hid ((numsL (l.take k) d).length + [num].length<=Few):=by have:=QW (l.take k) d;rw[List.length_take]at this;unfold Hid Few;simp;omega
   have HRE:Hid (InE num [.int .i64 num]):=⟨rfl,hok.n⟩
   have hbp:wr.cell? ⟨w.heap.size,d,none⟩=some (vs d):=HR4.out.at hd4
   have HLT:=hid ((HR4.out.own d hd4).lt)
   clear hu hx hc b3 hok hr4 hri hR
   go_upto_region 7 with (go_at_call 64;refine (Qx ⟨d,num⟩ _).mono ?_;rw[HRI.out];rintro e wd ⟨rfl,hbd'⟩;have hsd:=hbd'.size;simp only[World.size_alloc]at hsd)
   have HB1:Hid (Below wr.heap.size wr wd):=((Below.refl _ wr).alloc (Nat.le_refl _) _).trans (hbd'.mono (by simp))
   have hx0:wd.cell? ⟨wr.heap.size,0,none⟩=some (.int .i64 (d:Int)):=by rw[hbd'.cell (p:=⟨wr.heap.size,0,none⟩) (by simp)];simp
   have hx1:wd.cell? ⟨wr.heap.size,1,none⟩=some (.int .i64 num):=by rw[hbd'.cell (p:=⟨wr.heap.size,1,none⟩) (by simp)];simp
   have hxb:wd.heap[wr.heap.size]?=some (.cells #[.int .i64 (d:Int),.int .i64 num] 78 (0,0)):=(hbd'.block wr.heap.size (by simp)).trans (Qg rfl)
   have HXB:=hid hxb
   have hbp1:wd.cell? ⟨w.heap.size,d,none⟩=some (vs d):=(HB1.out.cell (p:=⟨w.heap.size,d,none⟩) hsz2).trans hbp
   have HR5:=hid (HR4.out.grow HB1.out)
   have hwd1:w.heap.size<wd.heap.size:=by omega
   have hwd2:w.heap.size≠wd.heap.size:=by omega
   have hwd3:wr.heap.size<wd.heap.size:=by omega
   have hwd4:wr.heap.size≠wd.heap.size:=by omega
   have HBW:=hid (hb.trans (HB1.out.mono hsz))
   clear hbp hxb hbd' e0 e1
   go_wp2_with fail
   refine QV (S:=fun w'=>w'.cell? ⟨wr.heap.size,0,none⟩=some (.int .i64 (d:Int))/\w'.cell? ⟨wr.heap.size,1,none⟩=some (.int .i64 num)/\w'.cell? ⟨w.heap.size,d,none⟩=some (vs d)) 11 (by kernel_rfl) (by kernel_rfl) ?_
   simp only[List.take_succ_cons,List.take_zero,List.drop_succ_cons,List.drop_zero]
   have hHeld:(fun w':World=>w'.cell? ⟨wr.heap.size,0,none⟩=some (.int .i64 (d:Int))/\w'.cell? ⟨wr.heap.size,1,none⟩=some (.int .i64 num)/\w'.cell? ⟨w.heap.size,d,none⟩=some (vs d)) wd.drew:=by go_keep
   refine wpAnyH_take (i:=0) (oi:=_) (v:=?v0) rfl (by kernel_rfl) (by kernel_rfl) (by kernel_rfl) (fun _ _ _ h=>h) (Or.inl ⟨by rfl,?h0⟩) (by assumption) ?_
   case h0=>(intro w hSw;(try dsimp only at hSw);go_simp;(try with_reducible rfl))
   simp only[Act.put,List.setIfInBounds_toArray]
   refine wpAnyH_take (i:=1) (oi:=_) (v:=?v1) rfl (by kernel_rfl) (by kernel_rfl) (by kernel_rfl) (fun _ _ _ h=>h) (Or.inl ⟨by rfl,?h1⟩) (by assumption) ?_
   case h1=>(intro w hSw;(try dsimp only at hSw);go_simp;(try with_reducible rfl))
   simp only[Act.put,List.setIfInBounds_toArray]
   refine wpAnyH_take (i:=2) (oi:=_) (v:=?v2) rfl (by kernel_rfl) (by kernel_rfl) (by kernel_rfl) (fun _ _ _ h=>h) (Or.inl ⟨by rfl,?h2⟩) (by assumption) ?_
   case h2=>(intro w hSw;(try dsimp only at hSw);go_simp;(try with_reducible rfl))
   simp only[Act.put,List.setIfInBounds_toArray]
   refine wpAnyH_take (i:=3) (oi:=_) (v:=?v3) rfl (by kernel_rfl) (by kernel_rfl) (by kernel_rfl) (fun _ _ _ h=>h) (Or.inl ⟨by rfl,?h3⟩) (by assumption) ?_
   case h3=>(intro w hSw;(try dsimp only at hSw);go_simp;(try with_reducible rfl))
   simp only[Act.put,List.setIfInBounds_toArray]
   refine wpAnyH_take (i:=4) (oi:=_) (v:=?v4) rfl (by kernel_rfl) (by kernel_rfl) (by kernel_rfl) (fun _ _ _ h=>h) (Or.inl ⟨by rfl,?h4⟩) (by assumption) ?_
   case h4=>(intro w hSw;(try dsimp only at hSw);go_simp;(try with_reducible rfl))
   simp only[Act.put,List.setIfInBounds_toArray]
   refine wpAnyH_take (i:=5) (oi:=_) (v:=?v5) rfl (by kernel_rfl) (by kernel_rfl) (by kernel_rfl) (fun _ _ _ h=>h) (Or.inl ⟨by rfl,?h5⟩) (by assumption) ?_
   case h5=>(intro w hSw;(try dsimp only at hSw);go_simp;(try with_reducible rfl))
   simp only[Act.put,List.setIfInBounds_toArray]
   refine wpAnyH_take (i:=6) (oi:=_) (v:=?v6) rfl (by kernel_rfl) (by kernel_rfl) (by kernel_rfl) (fun _ _ _ h=>h) (Or.inl ⟨by rfl,?h6⟩) (by assumption) ?_
   case h6=>(intro w hSw;(try dsimp only at hSw);go_simp;(try with_reducible rfl))
   simp only[Act.put,List.setIfInBounds_toArray]
   refine wpAnyH_take (i:=7) (oi:=_) (v:=?v7) rfl (by kernel_rfl) (by kernel_rfl) (by kernel_rfl) (fun _ _ _ h=>h) (Or.inl ⟨by rfl,?h7⟩) (by assumption) ?_
   case h7=>(intro w hSw;(try dsimp only at hSw);go_simp;(try with_reducible rfl))
   simp only[Act.put,List.setIfInBounds_toArray]
   refine wpAnyH_ready (rs:=[8]) (by kernel_rfl) (by simp) ?_
   refine AllReadyH.cons (o:=_) rfl (fun K hK=>?_) AllReadyH.nil
   go_simp
   refine hK.out _ _ ?_ (fun hHeld8=>?_)
   ·go_keep
   clear hK K
   simp only[List.setIfInBounds_toArray]
   refine wpAnyH_ready (rs:=[9]) (by kernel_rfl) (by simp) ?_
   refine AllReadyH.cons (o:=_) rfl (fun K hK=>?_) AllReadyH.nil
   (refine XD (v:=vs d) rfl (.tmp 24) (.tmp 27) _ rfl Xd (by decide) (by decide) (fun _ _ h=>h.one) rfl (((HR5.out.own d hd4).grow ((Below.refl _ wd).alloc (Nat.le_refl _) _)).drew) rfl (SlP.one (x:=num) HRE.out rfl _ (by simp)) HL.out (by simp;omega) ?_;intro v1 w4 hown4 hb4 hg4 hv4;have hsh4:=OwnP.shape hown4;simp only[List.length_append,List.length_singleton]at hsh4;obtain⟨A1,c1,hv1⟩:=hsh4;subst hv1;have hg4h:Hid (w4.heap[w.heap.size]?=some (.cells #[vs 0,vs 1,vs 2,vs 3] 183 (0,0))):=(hg4.block w.heap.size (by simp;omega) (fun e=>by have:=HLT.out _ e.symm;omega)).trans ((Qh hwd1).trans HR5.out.arr);have hc4:w4.cell? ⟨w.heap.size,d,none⟩=some (vs d):=(Qa hg4h.out).trans (QP vs hd4);have hf4:w4.frozen? ⟨w.heap.size,d,none⟩=false:=Qc hg4h.out;have hx3:=(hg4.block wr.heap.size (by simp;omega) (fun e=>by have:=HLT.out _ e.symm;omega)).trans ((Qh hwd3).trans HXB.out);have hx4:Hid (w4.cell? ⟨wr.heap.size,0,none⟩=some (.int .i64 (d:Int))/\w4.cell? ⟨wr.heap.size,1,none⟩=some (.int .i64 num)/\w4.cell? ⟨w.heap.size,d,none⟩=some (vs d)):=⟨(Qa (i:=0) hx3).trans rfl,(Qa (i:=1) hx3).trans rfl,hc4⟩;clear hx3)
   refine hK.out _ _ ?_ (fun hHeld9=>?_)
   ·exact hx4.out
   clear hK K
   simp only[Act.put,List.setIfInBounds_toArray]
   refine wpAnyH_take (i:=10) (oi:=_) (v:=?v10) rfl (by kernel_rfl) (by kernel_rfl) (by kernel_rfl) (fun _ _ _ h=>h) (Or.inl ⟨by rfl,?h10⟩) (by assumption) ?_
   case h10=>(intro w hSw;(try dsimp only at hSw);go_simp;(try with_reducible rfl))
   simp only[Act.put,List.setIfInBounds_toArray]
   refine wpAnyH_done (by kernel_rfl) ?_ _
   change wpList _ _ _ _ _ _
   go_wp2_with fail
   go_roundw
   case rel=>
    refine⟨k+1,by omega,by go_num,fun i=>if i=d then .slice A1 ((numsL (l.take k) d).length+1) c1 else vs i,?_,?_⟩
    ·rw[HPD.out]
     exact Rows4.put (w:=(wd.alloc (.cells #[.int .i64 num] 2)).drew) ((HR5.out.grow ((Below.refl _ _).alloc (Nat.le_refl _) _)).same rfl) hd4 hown4 hg4 hv4
    ·exact (((HBW.out.alloc (by omega) _).drew.trans (hb4.mono (by omega))).setCell (Nat.le_refl _) _)
   case measure=>simp[intOf];omega
  ·obtain rfl:k=l.length:=by omega
   rw[List.take_of_length_le (Nat.le_refl _)]at hr4
   have c0:wr.cell? ⟨w.heap.size,0,none⟩=some (vs 0):=hr4.at (by omega)
   have c1:wr.cell? ⟨w.heap.size,1,none⟩=some (vs 1):=hr4.at (by omega)
   have c2:wr.cell? ⟨w.heap.size,2,none⟩=some (vs 2):=hr4.at (by omega)
   have c3:wr.cell? ⟨w.heap.size,3,none⟩=some (vs 3):=hr4.at (by omega)
   have HR:=hid hr4
   have HRR:=hid hR
   clear hr4 b3 hR
   go_wp2_with fail
   obtain⟨w1,rfl⟩:∃ w1:World,w1=wr:=⟨_,rfl⟩
   go_loopw [32] (fun i wr=>∃ k:Nat,k<=4/\i=.int .i64 k/\OfB l w1 k wr) (fun i _=>4-(intOf i).toNat)
   case atStart=>exact⟨0,by omega,rfl,fun _=>.slice none 0 0,Qg rfl,fun j _=>by rw[if_neg (Nat.not_lt_zero _)];exact OwnP.nil,(Below.refl _ _).alloc (Nat.le_refl _) _⟩
   case round=>
    obtain⟨k,hk,rfl,ps,hpa,hpo,hbi⟩:=hrel
    have hsi:=hbi.size
    have hsi2:w1.heap.size<wr.heap.size:=(Array.getElem?_eq_some_iff.1 hpa).1
    by_cases hk4:k<4
    ·have hki:(k:Int)<4:=by omega
     have hidx:∀ w,(Instr.index 183 (.agg #[vs 0,vs 1,vs 2,vs 3]) (.int .i64 (k:Int))).run Tryz.prog w=.ok (vs k) w:=fun w=>by
      match k,hk4 with
      |0,_=>rfl
      |1,_=>rfl
      |2,_=>rfl
      |3,_=>rfl
     have hnl:=QW l k
     have HSL:Hid (SlP wr wr.heap.size 1 InE (vs k) (numsL l k)):=(HR.out.sl hk4 (by show (numsL l k).length<=Big;unfold Big;omega)).imp hbi hsi fun _ _ _ h=>h
     have HNB:Hid (∀ x∈numsL l k,numB x=true):=fun x hx=>by
      unfold numsL at hx
      obtain⟨d,hd,rfl⟩:=List.mem_map.1 hx
      have h1:=HRR.out d (List.mem_filter.1 hd).1
      simp[Dt.right]at h1
      simp[numB];omega
     have HPA:=hid hpa
     have HPO:=hid hpo
     have hpc:wr.cell? ⟨w1.heap.size,k,none⟩=some (ps k):=(Qa hpa).trans (QP ps hk4)
     clear hpa hpo
     go_wp2_with fail
     refine (qZk (numsL l k) (vs k) wr HSL.out HNB.out (by omega)).mono ?_
     rintro e w2 ⟨v2,rfl,ho2,hb2⟩
     obtain⟨A2,n2,rfl⟩:=ho2.shape
     have hp2:=(hb2.block w1.heap.size hsi2).trans HPA.out
     have hc2:w2.cell? ⟨w1.heap.size,k,none⟩=some (ps k):=(Qa hp2).trans (QP ps hk4)
     have hf2:w2.frozen? ⟨w1.heap.size,k,none⟩=false:=Qc hp2
     have HP2:=hid hp2
     have HO2:=hid ho2
     clear hp2 ho2 hpc hidx
     go_wp2_with fail
     go_roundw
     case rel=>
      refine⟨k+1,by omega,by go_num,fun j=>if j=k then .slice A2 (ofL (numsL l k)).length n2 else ps j,?_,fun j hj=>?_,(hbi.trans (hb2.mono hsi)).setCell (Nat.le_refl _) _⟩
      ·rw[Qd HP2.out,Xi ps hk4]
      ·by_cases e:j=k
       ·subst e
        simp only[if_true,if_pos (Nat.lt_succ_self j)]
        exact (HO2.out.mono (by omega)).setOther (by simp) _
       ·have e2:(if j<k+1 then ofL (numsL l (j:Int)) else [])=(if j<k then ofL (numsL l (j:Int)) else []):=by
         by_cases e3:j<k
         ·rw[if_pos e3,if_pos (by omega)]
         ·rw[if_neg e3,if_neg (by omega)]
        simp only[if_neg e]
        rw[e2]
        exact ((HPO.out j hj).grow hb2).setOther (by simp) _
     case measure=>simp[intOf];omega
    ·obtain rfl:k=4:=by omega
     have d0:wr.cell? ⟨w1.heap.size,0,none⟩=some (ps 0):=Qa (i:=0) hpa
     have d1:wr.cell? ⟨w1.heap.size,1,none⟩=some (ps 1):=Qa (i:=1) hpa
     have d2:wr.cell? ⟨w1.heap.size,2,none⟩=some (ps 2):=Qa (i:=2) hpa
     have d3:wr.cell? ⟨w1.heap.size,3,none⟩=some (ps 3):=Qa (i:=3) hpa
     have HOL:∀ j:Nat,(ofL (numsL l (j:Int))).length<=100001:=fun j=>by have:=Xk (numsL l (j:Int));have:=QW l (j:Int);omega
     have HSP:Hid (∀ j,j<4->SlP wr wr.heap.size 2 RuE (ps j) (ofL (numsL l (j:Int)))):=fun j hj=>by
      have:=hpo j hj
      rw[if_pos hj]at this
      exact this.sl (by have:=HOL j;unfold Big;omega)
     have HOLH:=hid HOL
     clear hpa hpo HOL
     go_wp2_with fail
     refine (XP (fun j=>ofL (numsL l (j:Int))) ps wr HSP.out (fun j _=>by have:=HOLH.out j;show (ofL _).length<=_;omega)).mono ?_
     rintro e w2 ⟨v2,rfl,ho2,hb2⟩
     go_wp2_with fail
     go_ret2
     exact⟨_,rfl,ho2.mono (by omega),(hb.trans (hbi.mono hsz)).trans (hb2.mono (by omega))⟩
def qZm (t:Tr)(w:World)(e:Ending)(w':World):Prop:=
 ∃ v n,e=.returned (.tuple #[v,.int .i64 n])/\n=(if t.right 5 then 0 else 1)/\OwnP w' w.heap.size 45 3 SpE v (if t.right 5 then ctxOf t.dots else [])/\Below w.heap.size w w'
theorem Vy (t:Tr)(ve vk:Value)(w:World)(h:t.rd w w.heap.size ve vk)(hN:t.sz<=90000) :
  Calls Tryz.prog 68 #[.agg #[ve,vk]] w (qZm t w):=by
 have HC:Hid (∀ w',Below w.heap.size w w'->t.rd w' w'.heap.size ve vk):=fun w' hb=>Qj hb hb.size _ _ _ h
 have hdl:=Yi t
 obtain⟨A3,n3,A4,n4,rfl,rfl⟩:=Ql h
 have hb0:=(Below.refl w.heap.size w).alloc (Nat.le_refl _) (.cells #[.slice A3 t.es.length n3,.slice A4 t.ks.length n4] 25)
 clear h
 go_enter Tryz.func68,Tryz.ntmps68
 go_wp2_with fail
 refine (YW t _ _ _ (HC.out _ hb0)).mono ?_
 rintro e w1 ⟨rfl,hb1⟩
 have hs1:=hb1.size
 simp only[World.size_alloc]at hs1
 have hB1:Below w.heap.size w w1:=hb0.trans (hb1.mono (by simp))
 have c0:w1.cell? ⟨w.heap.size,0,none⟩=some (.slice A3 t.es.length n3):=by rw[hb1.cell (p:=⟨w.heap.size,0,none⟩) (by simp)];simp
 have c1:w1.cell? ⟨w.heap.size,1,none⟩=some (.slice A4 t.ks.length n4):=by rw[hb1.cell (p:=⟨w.heap.size,1,none⟩) (by simp)];simp
 cases hr:t.right 5
 ·have HR:=hid hr
  clear hr
  go_wp2_with fail
  go_ret2
  exact⟨_,_,rfl,by rw[HR.out];rfl,by rw[HR.out];exact OwnP.nil,hB1⟩
 ·have HR:=hid hr
  have HD:=hid (Zs t 5 hr)
  clear hr
  go_wp2_with fail
  refine (qQe t _ _ _ (HC.out _ hB1) (by omega)).mono ?_
  rintro e w2 ⟨v2,rfl,ho2,hb2⟩
  have hs2:=hb2.size
  have hsl:=ho2.sl (by unfold Big;omega)
  clear ho2
  go_wp2_with fail
  refine (qZl t.dots v2 w2 hsl HD.out (by omega)).mono ?_
  rintro e w3 ⟨v3,rfl,ho3,hb3⟩
  go_wp2_with fail
  go_ret2
  exact⟨_,_,rfl,by rw[HR.out];rfl,by rw[HR.out];exact ho3.mono (by omega),(hB1.trans (hb2.mono (by omega))).trans (hb3.mono (by omega))⟩
def RetCE (w:World)(t:Tr)(c:List Sp)(k:Int)(e:Ending)(w':World):Prop:=
 ∃ ve vk vc,e=.returned (.tuple #[.agg #[ve,vk,vc],.int .i64 k])/\t.rda w' (fun b=>w.heap.size<=b/\b<w'.heap.size) ve vk/\SlA w' (fun b=>w.heap.size<=b/\b<w'.heap.size) 3 SpE vc c/\Below w.heap.size w w'
theorem SlA.one {α:Type}{w:World}{ok:Nat->Prop}{sz n:Nat}{E:α->List Value->Prop}{x:α}{cs:List Value}{e:TypeId}{z:Nat×Nat}(hE:E x cs)(hl:cs.length=sz)(h:w.heap[n]?=some (.cells cs.toArray e z))(ho:ok n) :
  SlA w ok sz E (.slice (some ⟨n,0,none⟩) 1 1) [x]:=by
 refine⟨_,1,rfl,Nat.le_refl _,by simp[Big],fun _=>⟨_,0,rfl,ho,fun j y hy=>?_⟩⟩
 match j,hy with
 |0,hy=>
  simp at hy;subst hy
  exact⟨cs,hE,hl,fun i u hi=>by rw[Qa h];simpa using hi⟩
theorem En.Ok.mk' {d:Dt}{n:Int}(hd:d.Ok)(hn:I64 n):En.Ok ⟨d.dc,d.n,ByteArray.empty,n⟩:=⟨hd.dc,hd.n,hn,by simp[Big]⟩
theorem Vz:∀ (t:Tr) (d:Int),t.right d=true->(t.dep:Int)<=d:=by
 intro t
 induction t using Tr.ind with
 |h es ks ih=>
 intro d h
 rw[Tr.right,Bool.and_eq_true,Bool.and_eq_true,decide_eq_true_eq]at h
 obtain⟨⟨h1,_⟩,h2⟩:=h
 rw[Tr.dep]
 have:∀ (p:Option ByteArray) (ks:List Kd),(∀ k t,(k,t)∈ks->∀ d,t.right d=true->(t.dep:Int)<=d)->Tr.rightL p ks d=true->(Tr.depL ks:Int)<=d-1:=by
  intro p ks
  induction ks generalizing p with
  |nil=>intro _ _;simp[Tr.depL];omega
  |cons x ks ih'=>
   obtain⟨k,t⟩:=x
   intro hi h
   rw[QE,Bool.and_eq_true,Bool.and_eq_true]at h
   have a:=hi k t (by simp) _ h.1.2
   have b:=ih' (some k) (fun k t hm=>hi k t (by simp[hm])) h.2
   rw[Tr.depL];omega
 have:=this none ks ih h2
 omega
theorem Y4 (t:Tr):empB t.es.length t.ks.length=t.empty:=by
 obtain⟨es,ks⟩:=t
 rw[Bool.eq_iff_iff];simp[empB,Tr.empty,Tr.es,Tr.ks]
def joinK (a b:Tr):List ByteArray:=cmpL (srtL ((a.ks++b.ks).map (·.1)))
def joinF (f:ByteArray->Tr)(k:ByteArray):List Kd:=if (f k).empty then [] else [(k,f k)]
def joinT:Nat->List Sp->List Sp->Tr->Tr->Tr
 |0,_,_,_,_=>.mk [] []
 |n+1,ca,cb,a,b=>.mk (entL ca cb a.es b.es) ((joinK a b).flatMap (joinF fun k=>joinT n ca cb (kidT a k) (kidT b k)))
theorem VA (f:ByteArray->Tr)(k:ByteArray):(joinF f k).length<=1:=by unfold joinF;split<;>simp
theorem Yb (f:ByteArray->Tr):∀ l:List ByteArray,(l.flatMap (joinF f)).length<=l.length
 |[]=>by simp
 |k :: l=>by
  have h1:=VA f k
  have h2:=Yb f l
  rw[List.flatMap_cons,List.length_append,List.length_cons];omega
theorem KD {l:List ByteArray}{k:Nat}{x:ByteArray}(h:l[k]?=some x)(f:ByteArray->Tr):(l.take (k+1)).flatMap (joinF f)=(l.take k).flatMap (joinF f)++joinF f x:=by
 rw[List.take_add_one,h,List.flatMap_append];simp
theorem qQn (l:List ByteArray):(cmpL l).length<=l.length:=by
 unfold cmpL
 have:=Lib.compact_length_le (l.map toBy)
 rw[List.length_map]at this ⊢;exact this
theorem qQo {l:List ByteArray}{x:ByteArray}(h:x∈cmpL l):x∈l:=by
 unfold cmpL at h
 obtain⟨y,hy,rfl⟩:=List.mem_map.1 h
 unfold Lib.compact Lib.compactUpTo at hy
 obtain⟨j,hj,rfl⟩:=List.mem_map.1 hy
 have hj':j<(l.map toBy).length:=List.mem_range.1 (List.mem_filter.1 hj).1
 rw[getElem!_pos _ j (by simpa using hj')]
 simp[Vs]
theorem qQp {l:List ByteArray}{x:ByteArray}(h:x∈srtL l):x∈l:=by
 unfold srtL at h
 obtain⟨y,hy,rfl⟩:=List.mem_map.1 h
 obtain⟨z,hz,rfl⟩:=List.mem_map.1 ((List.mergeSort_perm _ _).subset hy)
 exact hz
theorem VB {a b:Tr}{x:ByteArray}(h:x∈joinK a b):∃ t,(x,t)∈a.ks∨(x,t)∈b.ks:=by
 have:=qQp (qQo h)
 obtain⟨⟨k,t⟩,hm,rfl⟩:=List.mem_map.1 this
 rcases List.mem_append.1 hm with h|h
 ·exact⟨t,.inl h⟩
 ·exact⟨t,.inr h⟩
theorem VC (a b:Tr):(joinK a b).length<=a.ks.length+b.ks.length:=by
 unfold joinK
 have h1:=qQn (srtL ((a.ks++b.ks).map (·.1)))
 rw[J6,List.length_map,List.length_append]at h1
 exact h1
theorem Jt (t:Tr):1<=t.dep:=by obtain⟨es,ks⟩:=t;rw[Tr.dep];omega
theorem Yc {t u:Tr}{k:ByteArray}(h:(k,u)∈t.ks):u.dep+1<=t.dep:=by
 obtain⟨es,ks⟩:=t
 rw[Tr.dep];have:=Vt (show (k,u)∈ks from h);omega
theorem Ka {t:Tr}(ho:t.Ord){n:Nat}(h:t.dep<=n+1)(hn:1<=n)(k:ByteArray):(kidT t k).dep<=n:=by
 by_cases hm:∃ u,(k,u)∈t.ks
 ·obtain⟨u,hm⟩:=hm
  rw[Xn ho hm];have:=Yc hm;omega
 ·rw[Yw fun u hu=>hm ⟨u,hu⟩];simp[Tr.dep,Tr.depL];omega
theorem VD {a b:Tr}{n:Nat}(ha:a.dep<=n+1)(hb:b.dep<=n+1){x:ByteArray}(h:x∈joinK a b):1<=n:=by
 obtain⟨t,h|h⟩:=VB h
 ·have:=Yc h;have:=Jt t;omega
 ·have:=Yc h;have:=Jt t;omega
theorem es_sz (t:Tr):t.es.length+t.ks.length<=t.sz:=by
 obtain⟨es,ks⟩:=t
 have:=ZZ ks
 rw[Tr.sz];simp only[Tr.es,Tr.ks];omega
theorem qZe {t:Tr}{w:World}{B:Nat}{ve vk:Value}(h:t.rd w B ve vk):SlP w B 4 EnE ve t.es:=by
 obtain⟨es,ks⟩:=t;exact (QC.1 h).1
theorem Zl {w w':World}{o:Obj}(h:Below (w.alloc o).heap.size (w.alloc o) w'):Below w.heap.size w w':=((Below.refl _ w).alloc (Nat.le_refl _) o).trans (h.mono (by simp))
theorem qZn {wr w7:World}{n N:Nat}{x y u v:Value}{e:TypeId}{t:Tr}(hbox:w7.heap[n]?=some (.cells #[x,y] e (0,0)))(hn:wr.heap.size<=n)(hb:Below wr.heap.size wr w7)(hr:t.rda w7 (fun b=>N<=b/\b<w7.heap.size) u v)(hnN:n<N) :
  ∀ W,Below ((w7.setCell ⟨n,0,none⟩ u).setCell ⟨n,1,none⟩ v).heap.size ((w7.setCell ⟨n,0,none⟩ u).setCell ⟨n,1,none⟩ v) W->W.cell? ⟨n,0,none⟩=some u/\W.cell? ⟨n,1,none⟩=some v/\Below wr.heap.size wr W/\t.rda W (fun b=>wr.heap.size<=b/\b<W.heap.size) u v:=by
 intro W hW
 have hsz:((w7.setCell ⟨n,0,none⟩ u).setCell ⟨n,1,none⟩ v).heap.size=w7.heap.size:=by simp[World.setCell]
 rw[hsz]at hW
 have hlt:=lt_of_block hbox
 have hg:W.heap[n]?=some (.cells #[u,v] e (0,0)):=(hW.block n hlt).trans (by simpa using Qd (i:=1) (Qd (i:=0) hbox u) v)
 have hs:=hW.size
 rw[hsz]at hs
 refine⟨Qa (i:=0) hg,Qa (i:=1) hg,((hb.setCell hn _).setCell hn _).trans (hW.mono hb.size),Zi (fun b hb'=>?_) (fun b hb'=>⟨by omega,by omega⟩) _ _ _ hr⟩
 rw[hW.block b hb'.2]
 exact (Below.heap_setCell _ _ _ _ (by simp;omega)).trans (Below.heap_setCell _ _ _ _ (by simp;omega))
theorem qZo {wr w7:World}{N:Nat}{u v:Value}{e:TypeId}{t:Tr}(hb:Below wr.heap.size wr w7)(hr:t.rda w7 (fun b=>N<=b/\b<w7.heap.size) u v)(hN:wr.heap.size<=N) :
  ∀ W,Below (w7.alloc (.cells #[u,v] e)).heap.size (w7.alloc (.cells #[u,v] e)) W->W.cell? ⟨w7.heap.size,0,none⟩=some u/\W.cell? ⟨w7.heap.size,1,none⟩=some v/\Below wr.heap.size wr W/\t.rda W (fun b=>wr.heap.size<=b/\b<W.heap.size) u v:=by
 intro W hW
 have hg:W.heap[w7.heap.size]?=some (.cells #[u,v] e (0,0)):=(hW.block _ (by simp)).trans (Qg rfl)
 have hs:=hW.size
 rw[World.size_alloc]at hs
 refine⟨Qa (i:=0) hg,Qa (i:=1) hg,(hb.alloc hb.size _).trans (hW.mono (by have:=hb.size;simp;omega)),Zi (fun b hb'=>?_) (fun b hb'=>⟨by omega,by omega⟩) _ _ _ hr⟩
 rw[hW.block b (by rw[World.size_alloc];omega)]
 exact Qh hb'.2
theorem KE (ca cb:List Sp)(hN1:ca.length<=900000)(hN2:cb.length<=900000):∀ (n:Nat) (a b:Tr) (va ka vb kb vca vcb:Value) (w:World),a.rd w w.heap.size va ka->b.rd w w.heap.size vb kb->SlP w w.heap.size 3 SpE vca ca->SlP w w.heap.size 3 SpE vcb cb->a.Ord->b.Ord->a.dep<=n->b.dep<=n->a.sz<=100000->b.sz<=100000 ->
  Calls Tryz.prog 111 #[.agg #[va,ka],.agg #[vb,kb],vca,vcb] w (RetT w (joinT n ca cb a b)):=by
 intro n
 induction n with
 |zero=>intro a b _ _ _ _ _ _ w _ _ _ _ _ _ h _ _ _;have:=Jt a;omega
 |succ n ih=>
 intro a b va ka vb kb vca vcb w ha hb hca hcb hoa hob hda hdb hza hzb
 have HA:=hid ha
 have HB:=hid hb
 have HCA:Hid (∀ w',Below w.heap.size w w'->SlP w' w'.heap.size 3 SpE vca ca):=fun w' hb=>hca.imp hb hb.size fun _ _ _ h=>h
 have HCB:Hid (∀ w',Below w.heap.size w w'->SlP w' w'.heap.size 3 SpE vcb cb):=fun w' hb=>hcb.imp hb hb.size fun _ _ _ h=>h
 have hea:=es_sz a
 have heb:=es_sz b
 have hel:=Zp ca cb _ a.es b.es (Nat.le_refl _)
 obtain⟨A1,n1,A2,n2,rfl,rfl⟩:=Ql ha
 obtain⟨A3,n3,A4,n4,rfl,rfl⟩:=Ql hb
 obtain⟨A5,n5,rfl,_⟩:=hca
 obtain⟨A6,n6,rfl,_⟩:=hcb
 have hb0:Below w.heap.size w (((w.alloc (.cells #[.slice A1 a.es.length n1,.slice A2 a.ks.length n2] 25)).alloc (.cells #[.slice A3 b.es.length n3,.slice A4 b.ks.length n4] 25)).alloc (.cells #[.slice none 0 0,.slice none 0 0] 25)):=(((Below.refl _ w).alloc (Nat.le_refl _) _).alloc (by simp) _).alloc (by simp;omega) _
 have HW:Hid (∀ w',Below (w.heap.size+3) (((w.alloc (.cells #[.slice A1 a.es.length n1,.slice A2 a.ks.length n2] 25)).alloc (.cells #[.slice A3 b.es.length n3,.slice A4 b.ks.length n4] 25)).alloc (.cells #[.slice none 0 0,.slice none 0 0] 25)) w'->Below w.heap.size w w'/\w.heap.size+3<=w'.heap.size/\w'.heap[w.heap.size]?=some (.cells #[.slice A1 a.es.length n1,.slice A2 a.ks.length n2] 25 (0,0))/\w'.heap[w.heap.size+1]?=some (.cells #[.slice A3 b.es.length n3,.slice A4 b.ks.length n4] 25 (0,0))/\w'.heap[w.heap.size+2]?=some (.cells #[.slice none 0 0,.slice none 0 0] 25 (0,0))):=fun w' hb=>
  ⟨hb0.trans (hb.mono (by omega)),by have:=hb.size;simpa using this,(hb.block _ (by omega)).trans ((Qh (by simp<;>omega)).trans ((Qh (by simp)).trans (Qg rfl))),(hb.block _ (by omega)).trans ((Qh (by simp)).trans (Qg (by simp))),(hb.block _ (by omega)).trans (Qg (by simp))⟩
 have HOA:=hid hoa
 have HOB:=hid hob
 clear ha hb hoa hob
 go_enter Tryz.func111,Tryz.ntmps111
 go_wp2_with fail
 refine (XE a.es b.es ca cb _ _ _ _ _ ((qZe HA.out).imp hb0 hb0.size fun _ _ _ h=>h) ((qZe HB.out).imp hb0 hb0.size fun _ _ _ h=>h) (HCA.out _ hb0) (HCB.out _ hb0) (by omega) hN1 hN2).mono ?_
 rintro e w1 ⟨v1,rfl,ho1,hb1⟩
 obtain⟨Ae,ce,rfl⟩:=OwnP.shape ho1
 have HO1:=hid ho1
 have hJ:joinT (n+1) ca cb a b=.mk (entL ca cb a.es b.es) ((joinK a b).flatMap (joinF fun k=>joinT n ca cb (kidT a k) (kidT b k))):=rfl
 have HJ:=hid hJ
 generalize entL ca cb a.es b.es=E at *
 have hb1':=hid (hb1.mono (show w.heap.size+3<=_ by simp))
 obtain⟨hB1,hs1,g0,g1,g2⟩:=HW.out _ hb1'.out
 have a1:w1.cell? ⟨w.heap.size,1,none⟩=some (.slice A2 a.ks.length n2):=Qa (i:=1) g0
 have b1:w1.cell? ⟨w.heap.size+1,1,none⟩=some (.slice A4 b.ks.length n4):=Qa (i:=1) g1
 have hlt0:w.heap.size<w1.heap.size:=by omega
 have hlt1:w.heap.size+1<w1.heap.size:=by omega
 have hne0:w.heap.size≠w1.heap.size:=by omega
 have hne1:w.heap.size+1≠w1.heap.size:=by omega
 clear ho1 hJ g0 g1 g2 hb1
 have hb2:Below w.heap.size w ((w1.alloc (.cells #[.slice Ae E.length ce,.slice none 0 0] 25)).alloc (.cells #[.slice A2 a.ks.length n2,.slice A4 b.ks.length n4] 23)):=(hB1.alloc (by omega) _).alloc (by simp;omega) _
 go_wp2_with fail
 refine (Jo w w.heap.size a.ks b.ks _ _ (w1.heap.size+1) _ (by simp) (by simp) (by simp) ((Xp HA.out).imp hb2 hb2.size fun _ _ _ h=>h) ((Xp HB.out).imp hb2 hb2.size fun _ _ _ h=>h) (by omega) (by omega)).mono ?_
 rintro e w2 ⟨v2,rfl,ho2,hb3⟩
 have hs2:=hb3.size
 simp only[World.size_alloc]at hs2
 have hb12:Below (w1.heap.size+1) (w1.alloc (.cells #[.slice Ae E.length ce,.slice none 0 0] 25)) w2:=((Below.refl _ _).alloc (by simp) _).trans (hb3.mono (by simp))
 obtain⟨Ac,cc,rfl⟩:=OwnP.shape ho2
 have HSL:=hid (ho2.sl (by unfold Big;simp;omega))
 have HB12:=hid hb12
 clear ho2 hb3 hb12 a1 b1 hb2
 obtain⟨KS,hKS⟩:∃ KS,KS=a.ks++b.ks:=⟨_,rfl⟩
 have hKl:KS.length<=200000:=by rw[hKS,List.length_append];omega
 rw[←hKS]at HSL ⊢
 have HKS:=hid hKS
 clear hKS
 go_wp2_with fail
 go_loopw [10,31] (fun v i wr=>∃ k:Nat,k<=KS.length/\i=.int .i64 k/\OwnP wr w2.heap.size 9 1 StE v ((KS.take k).map (·.1))/\Below w2.heap.size w2 wr) (fun _ i _=>KS.length-(intOf i).toNat)
 case atStart=>exact⟨0,Nat.zero_le _,rfl,OwnP.nil,Below.refl _ _⟩
 case round=>
  obtain⟨k,hk,rfl,hown,hb⟩:=hrel
  have hsz:=hb.size
  by_cases hlt:k<KS.length
  ·obtain⟨⟨key,t⟩,hx⟩:∃ x,KS[k]?=some x:=⟨_,List.getElem?_eq_getElem hlt⟩
   obtain⟨A,m,hv,c1,c2,c3⟩:=HSL.out
   cases hv
   obtain⟨b,off,rfl,hbB,hc⟩:=c3 (by rintro rfl;simp at hlt)
   obtain⟨cs,⟨ve',vk',rfl,hkb,hrd⟩,_,hu⟩:=hc k _ hx
   obtain⟨A5,n5,A6,n6,rfl,rfl⟩:=Ql hrd
   have e0:wr.cell? ⟨b,off+k*3,none⟩=some (.string key):=(hb.cell hbB).trans (hu 0 _ rfl)
   have e1:wr.cell? ⟨b,off+k*3+1,none⟩=some (.slice A5 t.es.length n5):=(hb.cell hbB).trans (hu 1 _ rfl)
   have e2:wr.cell? ⟨b,off+k*3+2,none⟩=some (.slice A6 t.ks.length n6):=(hb.cell hbB).trans (hu 2 _ rfl)
   have HX:Hid ((KS.take (k+1)).map (·.1)=(KS.take k).map (·.1)++[key]):=by unfold Hid;rw[List.take_add_one,hx];simp
   have HL:Hid (((KS.take k).map (·.1)).length + [key].length<=Few):=by unfold Hid Few;simp;omega
   have HKY:Hid (StE key [.string key]):=⟨rfl,hkb⟩
   clear hu hc c3 hx hrd
   go_wp2_with (at_builtin;go_loud ((with_reducible refine Qi rfl (.tmp 35) (.tmp 38) _ rfl eiStr (by decide) (by decide) (fun _ _ h=>StE.one h) rfl ((hown.alloc _).alloc _) rfl (SlP.oneN (x:=key) HKY.out rfl _ rfl) HL.out (by simp only[World.size_alloc];omega) ?_);intro v1 w3 hown1 hb2 _;have hb3:=(((Below.refl w2.heap.size wr).alloc (by omega) _).alloc (by simp only[World.size_alloc];omega) _).trans hb2))
   go_roundw
   case rel=>exact⟨k+1,by omega,by go_num,by rw[HX.out];exact hown1,hb.trans hb3⟩
   case measure=>simp[intOf];omega
  ·obtain rfl:k=KS.length:=by omega
   rw[List.take_of_length_le (Nat.le_refl _)]at hown
   go_wp2_with fail
   refine (Jp _ _ _ _ hown (by simp;omega) hsz).mono ?_
   rintro e w3 ⟨rfl,ho3,hb3⟩
   have hs3:w2.heap.size<=w3.heap.size:=Nat.le_trans hsz hb3.size
   go_wp2_with fail
   refine (YO _ _ _ _ ho3 (by rw[J6];simp;omega) hs3).mono ?_
   rintro e w4 ⟨v4,rfl,ho4,hb4⟩
   have hs4:w2.heap.size<=w4.heap.size:=Nat.le_trans hs3 hb4.size
   have hKK:cmpL (srtL (KS.map (·.1)))=joinK a b:=by unfold joinK;rw[HKS.out]
   rw[hKK]at ho4
   have hkl:=VC a b
   have hB24:Below w2.heap.size w2 w4:=(hb.trans hb3).trans hb4
   have HKM:Hid (∀ x∈joinK a b,1<=n):=fun x hx=>VD hda hdb hx
   clear hKK hown ho3 hb hb3 hb4 hsz hs3 hlt hk
   have hB14:Below (w1.heap.size+1) (w1.alloc (.cells #[.slice Ae E.length ce,.slice none 0 0] 25)) w4:=HB12.out.trans (hB24.mono (by omega))
   have HG4:Hid (w4.heap[w1.heap.size]?=some (.cells #[.slice Ae E.length ce,.slice none 0 0] 25 (0,0))):=(hB14.block _ (by omega)).trans (Qg rfl)
   have HB14:Hid (Below w1.heap.size w1 w4):=((Below.refl _ w1).alloc (Nat.le_refl _) _).trans (hB14.mono (by omega))
   have HSLA:=hid (ho4.sla (by unfold Big;omega))
   obtain⟨A9,c9,hv4⟩:=OwnP.shape ho4
   subst hv4
   clear ho4 hB14 hB24 wr
   have hJK:Hid ((joinK a b).flatMap (joinF fun k=>joinT n ca cb (kidT a k) (kidT b k))=(joinK a b).flatMap (joinF fun k=>joinT n ca cb (kidT a k) (kidT b k))):=rfl
   generalize hKKe:joinK a b=KK at *
   have HKKe:=hid hKKe
   clear hKKe
   generalize hFF:(fun k=>joinT n ca cb (kidT a k) (kidT b k))=F at *
   have HF:Hid (∀ k,F k=joinT n ca cb (kidT a k) (kidT b k)):=fun k=>by rw[←hFF]
   clear hFF hJK
   have hlt4:w1.heap.size<w4.heap.size:=by omega
   go_wp2_with fail
   go_loopw [46] (fun i wr=>∃ k:Nat,k<=KK.length/\i=.int .i64 k/\∃ Ak ck,wr.heap[w1.heap.size]?=some (.cells #[.slice Ae E.length ce,.slice Ak ((KK.take k).flatMap (joinF F)).length ck] 25 (0,0)) /\
     OwnD wr w4.heap.size 96 3 KdA (fun b=>w4.heap.size<=b) (.slice Ak ((KK.take k).flatMap (joinF F)).length ck) ((KK.take k).flatMap (joinF F))/\w4.heap.size<=wr.heap.size/\Below w1.heap.size w1 wr/\∀ b,w1.heap.size<b->b<w4.heap.size->wr.heap[b]?=w4.heap[b]?) (fun i _=>KK.length-(intOf i).toNat)
   case atStart=>exact⟨0,Nat.zero_le _,rfl,none,0,HG4.out,OwnP.nil,Nat.le_refl _,HB14.out,fun _ _ _=>rfl⟩
   case round=>
    obtain⟨k,hk,rfl,Ak,ck,hg,hown,hsz,hb,hkp⟩:=hrel
    have hB0:Below w.heap.size w wr:=hB1.trans (hb.mono (by omega))
    have hszk:=hown.lt
    by_cases hlt:k<KK.length
    ·obtain⟨key,hx⟩:∃ x,KK[k]?=some x:=⟨_,List.getElem?_eq_getElem hlt⟩
     obtain⟨A,m,hv,c1,c2,c3⟩:=HSLA.out
     cases hv
     obtain⟨b',off,rfl,hbB,hc⟩:=c3 (by rintro rfl;simp at hlt)
     obtain⟨cs,⟨rfl,hkb⟩,_,hu⟩:=hc k _ hx
     have e0:wr.cell? ⟨b',off+k,none⟩=some (.string key):=(by unfold World.cell?;rw[hkp b' (by have:=hbB.1;omega) hbB.2.1]:wr.cell? ⟨b',off+k,none⟩=w4.cell? ⟨b',off+k,none⟩).trans (by simpa using hu 0 _ rfl)
     have hn1:=HKM.out key (List.mem_of_getElem? hx)
     have HX:=hid (KD hx F)
     have HJL:=Yb F (KK.take k)
     rw[List.length_take]at HJL
     generalize (KK.take k).flatMap (joinF F)=js at *
     have HL:Hid (js.length + [(key,F key)].length<=Few):=by unfold Hid Few;simp;omega
     have HKB:=hid hkb
     have HC8:Hid (∀ W,Below wr.heap.size wr W->(W.cell? ⟨w.heap.size,0,none⟩=some (.slice A1 a.es.length n1)/\W.cell? ⟨w.heap.size,1,none⟩=some (.slice A2 a.ks.length n2)/\W.cell? ⟨w.heap.size+1,0,none⟩=some (.slice A3 b.es.length n3)/\W.cell? ⟨w.heap.size+1,1,none⟩=some (.slice A4 b.ks.length n4))/\Below w.heap.size w W):=fun W hW=>by
      obtain⟨q0,_,q1,q2,_⟩:=HW.out W (hb1'.out.trans ((hb.mono (by omega)).trans (hW.mono (by omega))))
      exact⟨⟨Qa (i:=0) q1,Qa (i:=1) q1,Qa (i:=0) q2,Qa (i:=1) q2⟩,q0⟩
     have HRA:Hid (∀ W,Below wr.heap.size wr W->a.rd W W.heap.size (.slice A1 a.es.length n1) (.slice A2 a.ks.length n2)):=fun W hW=>Qj (HC8.out W hW).2 (HC8.out W hW).2.size _ _ _ HA.out
     have HRB:Hid (∀ W,Below wr.heap.size wr W->b.rd W W.heap.size (.slice A3 b.es.length n3) (.slice A4 b.ks.length n4)):=fun W hW=>Qj (HC8.out W hW).2 (HC8.out W hW).2.size _ _ _ HB.out
     obtain⟨⟨q0,q1,q2,q3⟩,_⟩:=HC8.out wr (Below.refl _ _)
     have HIH:=hid (ih (kidT a key) (kidT b key))
     have HDA:=hid (Ka HOA.out hda hn1 key)
     have HDB:=hid (Ka HOB.out hdb hn1 key)
     have HZA:=hid (Nat.le_trans (Vp a key) hza)
     have HZB:=hid (Nat.le_trans (Vp b key) hzb)
     have hFk:=HF.out key
     have HFK:=hid hFk
     clear hu hc c3 hx hkb hn1 hFk ih
     go_upto_region 12 with (fail)
     go_region_held3 (fun w'=>w'.cell? ⟨w.heap.size,0,none⟩=some (.slice A1 a.es.length n1)/\w'.cell? ⟨w.heap.size,1,none⟩=some (.slice A2 a.ks.length n2)/\w'.cell? ⟨w.heap.size+1,0,none⟩=some (.slice A3 b.es.length n3)/\w'.cell? ⟨w.heap.size+1,1,none⟩=some (.slice A4 b.ks.length n4))
      (first|go_keep|exact (HC8.out _ hbk3.out).1|exact (HC8.out _ (hbk3.out.alloc hbk3.out.size _)).1|exact (HC8.out _ hbk2.out).1|exact (HC8.out _ (hbk2.out.alloc hbk2.out.size _)).1|exact (HC8.out _ hbk1.out).1|exact (HC8.out _ (hbk1.out.alloc hbk1.out.size _)).1|exact (HC8.out _ ((hbk3.out.setCell hge.out _).setCell hge.out _)).1)
      (first
          |(have hq:=hbk2;go_at_call 111;go_loud ((refine (HIH.out _ _ _ _ _ _ _ (by first|exact HQA2.out|exact Qj (Zl (Below.refl _ _)) (by simp) _ _ _ HQA2.out) (by first|exact HQB.out|exact Qj (Zl (Below.refl _ _)) (by simp) _ _ _ HQB.out) (HCA.out _ (HC8.out _ (by first|exact hbk2.out|exact hbk2.out.alloc hbk2.out.size _)).2) (HCB.out _ (HC8.out _ (by first|exact hbk2.out|exact hbk2.out.alloc hbk2.out.size _)).2) (JZ HOA.out key) (JZ HOB.out key) HDA.out HDB.out HZA.out HZB.out).mono ?_);rw[←HFK.out];rintro e w7 ⟨ve7,vk7,rfl,hrd7,hb⟩;obtain⟨Av,nv,Aw,nw,rfl,rfl⟩:=Qt hrd7;have HR7:=hid hrd7;have hb':Below w6.heap.size w6 w7:=(by first|exact hb|exact Zl hb);have hbk3:Hid (Below wr.heap.size wr w7):=hbk2.out.trans (hb'.mono (by have:=hbk2.out.size;simpa using this));(try (have hnN:=hid (lt_of_block hbox.out);have hbox:=hid ((hb.block _ hnN.out).trans hbox.out)));(try (have hbox:Hid (w7.heap[w6.heap.size]?=some (.cells #[.slice none 0 0,.slice none 0 0] 25 (0,0))):=(hb.block _ (by simp;done)).trans (Qg rfl);have hnN:Hid (w6.heap.size<(w6.alloc (.cells #[.slice none 0 0,.slice none 0 0] 25)).heap.size):=(by unfold Hid;simp);have hge:=hid hs6));(try (have z0:=Qc (i:=0) hbox.out;have z1:=Qc (i:=1) hbox.out;have y0:=Qa (i:=0) hbox.out;have y1:=Qa (i:=1) hbox.out));clear hrd7 hb hb'))
          |(have hq:=hbk1;go_at_call 156;go_loud ((refine (J3 b key _ _ _ (HRB.out _ (by first|exact hbk1.out|exact hbk1.out.alloc hbk1.out.size _)) HOB.out).mono ?_);rintro e w6 ⟨ve6,vk6,rfl,hrd6,hb⟩;have hb':Below w5.heap.size w5 w6:=(by first|exact hb|exact Zl hb);have HQB:=hid (Qj hb hb.size _ _ _ hrd6);have HQA2:=hid (Qj hb' hb'.size _ _ _ HQA.out);have hbk2:Hid (Below wr.heap.size wr w6):=hbk1.out.trans (hb'.mono (by have:=hbk1.out.size;simpa using this));have hs6:=hbk2.out.size;(try (have hbox:=hid ((hb.block _ (lt_of_block hbox.out)).trans hbox.out)));(try (have hbox:Hid (w6.heap[w5.heap.size]?=some (.cells #[.slice none 0 0,.slice none 0 0] 25 (0,0))):=(hb.block _ (by simp;done)).trans (Qg rfl);have hge:=hid hs5));clear hrd6 hb hb'))
          |(go_at_call 156;go_loud ((refine (J3 a key _ _ _ (HRA.out _ (by go_grown)) HOA.out).mono ?_);rintro e w5 ⟨ve5,vk5,rfl,hrd5,hb⟩;have HQA:=hid (Qj hb hb.size _ _ _ hrd5);have hbk1:Hid (Below wr.heap.size wr w5):=(Below.trans (by go_grown) (hb.mono (by simp)));have hs5:=hbk1.out.size;(try (have hbox:Hid (w5.heap[wr.heap.size]?=some (.cells #[.slice none 0 0,.slice none 0 0] 25 (0,0))):=(hb.block _ (by simp;done)).trans (Qg (by simp));have hge:=hid (Nat.le_refl wr.heap.size)));clear hrd5 hb)))
     all_goals (
      first
       |have hFIN:=hid (qZn hbox.out hge.out hbk3.out HR7.out hnN.out)
       |have hFIN:=hid (qZo (e:=25) hbk3.out HR7.out (by have:=hbk2.out.size;simp;omega))
      have hge4:=hbk3.out.size
      obtain⟨q4,q5,_,_⟩:=hFIN.out _ (Below.refl _ _)
      go_wp2_with fail
      refine (QA _ _ _ _ _ _ _).mono ?_
      rintro e w8 ⟨rfl,hb8⟩
      obtain⟨q6,q7,hb9,hrd9⟩:=hFIN.out _ hb8
      have hs9:=hb9.size
      have hg8:=(hb9.block w1.heap.size (by omega)).trans hg
      have hkp8:∀ b,w1.heap.size<b->b<w4.heap.size->w8.heap[b]?=w4.heap[b]?:=fun b h1 h2=>(hb9.block b (by omega)).trans (hkp b h1 h2)
      have hown8:=hown.grow KdA.mon hb9
      clear q0 q1 q2 q3 q4 q5
      cases he:empB (F key).es.length (F key).ks.length
      ·have HX2:Hid ((KK.take (k+1)).flatMap (joinF F)=js++[(key,F key)]):=by
        unfold Hid;rw[HX.out];unfold joinF;rw[←Y4,he];rfl
       have c9:w8.cell? ⟨w1.heap.size,1,none⟩=some (.slice Ak js.length ck):=Qa (i:=1) hg8
       have hlt8:w1.heap.size<w8.heap.size:=by omega
       clear he
       go_wp2_with (at_builtin;go_loud ((with_reducible refine Zn (v:=.slice Ak js.length ck) rfl (.tmp 63) (.tmp 67) _ rfl KdA.mon eiKid (by decide) (by decide) rfl (hown8.grow KdA.mon ((Below.refl _ w8).alloc (Nat.le_refl _) (.cells #[.string key,.slice Av (F key).es.length nv,.slice Aw (F key).ks.length nw] 96))) rfl (Xg hrd9 HKB.out (fun b hb=>⟨hb.2,by have:=hb.1;omega,by rw[World.size_alloc];have:=hb.2;omega,fun e=>by have:=hszk b e;have:=hb.1;omega⟩) _ (by rw[World.size_alloc];omega)) HL.out (by rw[World.size_alloc];omega) ?_);intro v1 w9 hown9 hb10 _ _;have hsh9:∃ A c,v1=.slice A (js++[(key,F key)]).length c:=OwnP.shape hown9;obtain⟨A1',c1',hv1⟩:=hsh9;subst hv1;have hg9:=hid ((hb10.block _ hlt4).trans ((Qh hlt8).trans hg8));have hc9:w9.cell? ⟨w1.heap.size,1,none⟩=some (.slice Ak js.length ck):=Qa (i:=1) hg9.out;have hf9:=Qc (i:=1) hg9.out))
       have hb11:=((hb9.mono (show w4.heap.size<=_ from hsz)).alloc (show w4.heap.size<=w8.heap.size by omega) _).trans hb10
       have hs11:=hb11.size
       go_roundw
       case rel=>
        refine⟨k+1,by omega,by go_num,A1',c1',?_,?_,?_,?_,?_⟩
        ·rw[HX2.out];simpa using Qd (i:=1) hg9.out (.slice A1' (js.length+1) c1')
        ·rw[HX2.out];exact OwnD.setOther hown9 KdA.mon hlt4 (by simp;omega) _
        ·simp[World.setCell];omega
        ·exact (hb.trans (hb11.mono (by omega))).setCell (by simp) _
        ·intro b h1 h2
         exact (Below.heap_setCell _ _ _ _ (by simp;omega)).trans ((hb11.block b h2).trans (hkp b h1 h2))
       case measure=>simp[intOf];omega
      ·have HX2:Hid ((KK.take (k+1)).flatMap (joinF F)=js):=by
        unfold Hid;rw[HX.out];unfold joinF;rw[←Y4,he];simp
       clear he
       go_wp2_with fail
       go_roundw
       case rel=>exact⟨k+1,by omega,by go_num,Ak,ck,by rw[HX2.out];exact hg8,by rw[HX2.out];exact hown8,by omega,hb.trans (hb9.mono (by omega)),hkp8⟩
       case measure=>simp[intOf];omega)
    ·obtain rfl:k=KK.length:=by omega
     rw[List.take_of_length_le (Nat.le_refl _)]at hg hown hszk
     have hJe:joinT (n+1) ca cb a b=.mk E (KK.flatMap (joinF F)):=by
      rw[HJ.out,←HKKe.out]
     have hjl:=Yb F KK
     generalize KK.flatMap (joinF F)=JS at *
     have c0:wr.cell? ⟨w1.heap.size,0,none⟩=some (.slice Ae E.length ce):=Qa (i:=0) hg
     have c1:wr.cell? ⟨w1.heap.size,1,none⟩=some (.slice Ak JS.length ck):=Qa (i:=1) hg
     have hg2:=(HW.out wr (hb1'.out.trans (hb.mono (by omega)))).2.2.2.2
     have d0:wr.cell? ⟨w.heap.size+2,0,none⟩=some (.slice none 0 0):=Qa (i:=0) hg2
     have d1:wr.cell? ⟨w.heap.size+2,1,none⟩=some (.slice none 0 0):=Qa (i:=1) hg2
     have z0:=Qc (i:=0) hg2
     have z1:=Qc (i:=1) hg2
     go_wp2_with fail
     have hW0:=Qd (i:=1) (Qd (i:=0) hg2 (.slice Ae E.length ce)) (.slice Ak JS.length ck)
     have hKW:∀ b,w.heap.size+3<=b->((wr.setCell ⟨w.heap.size+2,0,none⟩ (.slice Ae E.length ce)).setCell ⟨w.heap.size+2,1,none⟩ (.slice Ak JS.length ck)).heap[b]?=wr.heap[b]?:=fun b hb=>(Below.heap_setCell _ _ _ _ (by simp;omega)).trans (Below.heap_setCell _ _ _ _ (by simp;omega))
     have hSW:((wr.setCell ⟨w.heap.size+2,0,none⟩ (.slice Ae E.length ce)).setCell ⟨w.heap.size+2,1,none⟩ (.slice Ak JS.length ck)).heap.size=wr.heap.size:=by simp[World.setCell]
     have hBW:Below w.heap.size w ((wr.setCell ⟨w.heap.size+2,0,none⟩ (.slice Ae E.length ce)).setCell ⟨w.heap.size+2,1,none⟩ (.slice Ak JS.length ck)):=(hB0.setCell (by simp) _).setCell (by simp) _
     clear c0 c1 d0 d1 z0 z1
     generalize ((wr.setCell ⟨w.heap.size+2,0,none⟩ (.slice Ae E.length ce)).setCell ⟨w.heap.size+2,1,none⟩ (.slice Ak JS.length ck))=W at *
     have r0:W.cell? ⟨w.heap.size+2,0,none⟩=some (.slice Ae E.length ce):=(Qa (i:=0) hW0).trans (by simp)
     have r1:W.cell? ⟨w.heap.size+2,1,none⟩=some (.slice Ak JS.length ck):=(Qa (i:=1) hW0).trans (by simp)
     refine bodyPost_ret (v:=.agg #[.slice Ae E.length ce,.slice Ak JS.length ck]) (by simp[results,Tryz.results111,go_sem,r0,r1]) rfl ⟨_,_,rfl,?_,hBW⟩
     rw[hJe,Zh]
     refine⟨(HO1.out.sla (by unfold Big;omega)).up (fun b hb'=>(hKW b (by have:=hb'.1;simp only[World.size_alloc]at this;omega)).trans (hb.block b hb'.2.1)) (fun b hb'=>⟨by have:=hb'.1;simp only[World.size_alloc]at this;omega,by have:=hb'.2.1;omega⟩) (fun _ _ _ h=>h),(OwnP.sla hown (by unfold Big;omega)).up (fun b hb'=>hKW b (by have:=hb'.1;omega)) (fun b hb'=>⟨by have:=hb'.1;omega,by have:=hb'.2.1;omega⟩) ?_⟩
     intro x _ cs hx
     exact KdA.mon.up (fun b hb'=>hKW b (by have:=hb'.1;omega)) (fun b hb'=>⟨by have:=hb'.1;omega,by have:=hb'.2.1;omega⟩) hx
theorem qQq {x y:En}(h:x.dot=y.dot):(grtE x y).dot=x.dot:=by unfold grtE;split<;>simp[h]
def EntJ (ca cb:List Sp)(a b:En->Prop)(e:En):Prop:=
 (∃ x y,a x/\b y/\x.dot=y.dot/\e=grtE x y)∨(a e/\(∀ y,b y->y.dot≠e.dot)/\cHas cb e.dot=false)∨(b e/\(∀ x,a x->x.dot≠e.dot)/\cHas ca e.dot=false)
theorem EntJ.dot {ca cb:List Sp}{a b:En->Prop}{e:En}(h:EntJ ca cb a b e):∃ z,(a z∨b z)/\z.dot=e.dot:=by
 rcases h with⟨x,y,hx,hy,hd,rfl⟩|⟨hx,_,_⟩|⟨hx,_,_⟩
 ·exact⟨x,.inl hx,(qQq hd).symm⟩
 ·exact⟨e,.inl hx,rfl⟩
 ·exact⟨e,.inr hx,rfl⟩
end Go.Proofs.YtbcoelggdikipaaGreat
