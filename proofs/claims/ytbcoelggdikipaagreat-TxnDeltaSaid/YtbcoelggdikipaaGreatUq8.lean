/- What the laws need. No condition but those that each lemma states. -/
import Derived.Test.YtbcoelggdikipaaGreatUq7
import Derived.Test.YtbcoelggdikipaaGreatUq3
import Derived.Test.YtbcoelggdikipaaGreatUq1
import Derived.Test.YtbcoelggdikipaaGreatUq4
import Derived.Test.YtbcoelggdikipaaGreatUq6
import Derived.Test.YtbcoelggdikipaaGreatUq5
import Derived.Test.YtbcoelggdikipaaGreatUq2
set_option maxRecDepth 100000
set_option maxHeartbeats 8000000
set_option linter.unusedSimpArgs false
namespace Go.Proofs.YtbcoelggdikipaaGreat
open Go.RowKit
theorem OwnP.single {α:Type}{w:World}{base n sz:Nat}{e:TypeId}{E:α->List Value->Prop}{x:α}{cs:List Value}(hE:E x cs)(hl:cs.length=sz)(h:w.heap[n]?=some (.cells cs.toArray e (0,0)))(hb:base<=n):OwnP w base e sz E (.slice (some ⟨n,0,none⟩) 1 1) [x]:=by
 refine⟨[cs],⟨rfl,fun j y hy=>?_⟩,by simp[hl],.inr ⟨n,1,cs.toArray,rfl,hb,h,Nat.le_refl _,by simp[maxLen],by simp[hl],by simp[List.take_of_length_le (Nat.le_of_eq hl)]⟩⟩
 match j,hy with
 |0,hy=>simp at hy;subst hy;exact⟨cs,rfl,hE,hl⟩
def ownD (t:Tr):List Dt:=t.es.map En.dot
theorem qJ7 {t:Tr}(h:t.right 5=true):∀ d∈ownD t,d.right=true:=fun d hd=>Q3 t 5 h d (by
 obtain⟨es,ks⟩:=t
 rw[Tr.dots];exact List.mem_append_left _ hd)
theorem zQp (t:Tr):(ownD t).length<=t.sz:=by
 obtain⟨es,ks⟩:=t
 unfold ownD;rw[List.length_map,Tr.sz];simp only[Tr.es];omega
def wrtB (t:Tr)(s:ByteArray)(d:Dt):Bool:=chkT t d&&decide (s.size<=30)
def wrtE (t:Tr)(s:ByteArray)(d:Dt):Int:=if wrtB t s d then 0 else 1
def wrtT (t:Tr)(s:ByteArray)(d:Dt):Tr:=if wrtB t s d then .mk [⟨d.dc,d.n,s,0⟩] [] else .mk [] []
def wrtC (t:Tr)(s:ByteArray)(d:Dt):List Sp:=if wrtB t s d then ctxOf (d :: ownD t) else []
theorem wrtEn {d:Dt}{s:ByteArray}(hd:d.Ok)(hs:s.size<=Big):EnE (⟨d.dc,d.n,s,0⟩:En) [.int .i64 d.dc,.int .i64 d.n,.string s,.int .i64 0]:=⟨rfl,hd.dc,hd.n,⟨by show (_:Int)<=0;decide,by show (0:Int)<=_;decide⟩,hs⟩
theorem qJ8 (t:Tr)(s:ByteArray)(d:Dt)(ve vk:Value)(w:World)(h:t.rd w w.heap.size ve vk)(hs:s.size<=Big)(hN:t.sz<=4000)(hd:d.Ok) :
  Calls Tryz.prog 143 #[.agg #[ve,vk],.string s,.agg #[.int .i64 d.dc,.int .i64 d.n]] w (RetCE w (wrtT t s d) (wrtC t s d) (wrtE t s d)):=by
 have hsb:s.size<=140737488355328:=hs
 have hol:=zQp t
 have HSL:Hid (SlP w w.heap.size 4 EnE ve t.es):=by obtain⟨es,ks⟩:=t;exact (QE.1 h).1
 have HC:Hid (∀ w',Below w.heap.size w w'->t.rd w' w'.heap.size ve vk):=fun w' hb=>Qi hb hb.size _ _ _ h
 obtain⟨A3,n3,A4,n4,rfl,rfl⟩:=Qk h
 have hb0:=(((Below.refl w.heap.size w).alloc (Nat.le_refl _) (.cells #[.slice A3 t.es.length n3,.slice A4 t.ks.length n4] 25)).alloc (by simp) (.cells #[.int .i64 d.dc,.int .i64 d.n] 78)).alloc (by simp;omega) (.cells #[.slice none 0 0,.slice none 0 0,.slice none 0 0] 29)
 clear h
 go_enter Tryz.func143,Tryz.ntmps143
 go_wp2_with fail
 refine (Zs t d _ _ _ (HC.out _ hb0) (by omega)).mono ?_
 rintro e w1 ⟨rfl,hb1⟩
 have hs1:=hb1.size
 simp only[World.size_alloc]at hs1
 have hB1:Below w.heap.size w w1:=hb0.trans (hb1.mono (by simp;omega))
 have c0:w1.cell? ⟨w.heap.size,0,none⟩=some (.slice A3 t.es.length n3):=by
  rw[hb1.cell (p:=⟨w.heap.size,0,none⟩) (by simp;omega)]
  rw[World.cell?_alloc_lt _ _ _ (by simp;omega),World.cell?_alloc_lt _ _ _ (by simp)];simp
 have c1:w1.cell? ⟨w.heap.size,1,none⟩=some (.slice A4 t.ks.length n4):=by
  rw[hb1.cell (p:=⟨w.heap.size,1,none⟩) (by simp;omega)]
  rw[World.cell?_alloc_lt _ _ _ (by simp;omega),World.cell?_alloc_lt _ _ _ (by simp)];simp
 have d0:w1.cell? ⟨w.heap.size+1,0,none⟩=some (.int .i64 d.dc):=by rw[hb1.cell (p:=⟨w.heap.size+1,0,none⟩) (by simp),World.cell?_alloc_lt _ _ _ (by simp)];simp
 have d1:w1.cell? ⟨w.heap.size+1,1,none⟩=some (.int .i64 d.n):=by rw[hb1.cell (p:=⟨w.heap.size+1,1,none⟩) (by simp),World.cell?_alloc_lt _ _ _ (by simp)];simp
 have hg:w1.heap[w.heap.size+2]?=some (.cells #[.slice none 0 0,.slice none 0 0,.slice none 0 0] 29 (0,0)):=(hb1.block (w.heap.size+2) (by simp)).trans (Qd (by simp))
 have HG:=hid hg
 have k0:w1.cell? ⟨w.heap.size+2,0,none⟩=some (.slice none 0 0):=Qa (i:=0) hg
 have k1:w1.cell? ⟨w.heap.size+2,1,none⟩=some (.slice none 0 0):=Qa (i:=1) hg
 have k2:w1.cell? ⟨w.heap.size+2,2,none⟩=some (.slice none 0 0):=Qa (i:=2) hg
 have z0:=Qb (i:=0) hg
 have z1:=Qb (i:=1) hg
 have z2:=Qb (i:=2) hg
 clear hg hb1
 cases hc:chkT t d
 ·have HI:Hid (chkI t d=1):=by unfold Hid chkI;rw[hc];rfl
  have HE:Hid (wrtE t s d=1):=by unfold Hid wrtE wrtB;rw[hc];rfl
  have HTT:Hid (wrtT t s d=.mk [] []):=by unfold Hid wrtT wrtB;rw[hc];rfl
  have HCC:Hid (wrtC t s d=[]):=by unfold Hid wrtC wrtB;rw[hc];rfl
  rw[HI.out]
  clear hc
  go_wp2_with fail
  obtain⟨r0,r1,r2,hK,hS⟩:=box3 HG.out (.slice none 0 0) (.slice none 0 0) (.slice none 0 0)
  have hBW:=((hB1.setCell (p:=⟨w.heap.size+2,0,none⟩) (by simp) (.slice none 0 0)).setCell (p:=⟨w.heap.size+2,1,none⟩) (by simp) (.slice none 0 0)).setCell (p:=⟨w.heap.size+2,2,none⟩) (by simp) (.slice none 0 0)
  refine bodyPost_ret (v:=.tuple #[.agg #[.slice none 0 0,.slice none 0 0,.slice none 0 0],.int .i64 1]) (by simp[results,Tryz.results143,go_sem,r0,r1,r2]) rfl ⟨_,_,_,by rw[HE.out],by rw[HTT.out];exact Qo _ _,by rw[HCC.out];exact SlA.nil,hBW⟩
 have HI:Hid (chkI t d=0):=by unfold Hid chkI;rw[hc];rfl
 rw[HI.out]
 have h30:decide ((30:Int)<(s.size:Int)) = !decide (s.size<=30):=by rw[Bool.eq_iff_iff];simp;omega
 cases hz:decide (s.size<=30)
 ·have HE:Hid (wrtE t s d=1):=by unfold Hid wrtE wrtB;rw[hc,hz];rfl
  have HTT:Hid (wrtT t s d=.mk [] []):=by unfold Hid wrtT wrtB;rw[hc,hz];rfl
  have HCC:Hid (wrtC t s d=[]):=by unfold Hid wrtC wrtB;rw[hc,hz];rfl
  rw[hz]at h30
  simp only[Bool.not_false]at h30
  clear hc hz
  go_wp2_with fail
  obtain⟨r0,r1,r2,hK,hS⟩:=box3 HG.out (.slice none 0 0) (.slice none 0 0) (.slice none 0 0)
  have hBW:=((hB1.setCell (p:=⟨w.heap.size+2,0,none⟩) (by simp) (.slice none 0 0)).setCell (p:=⟨w.heap.size+2,1,none⟩) (by simp) (.slice none 0 0)).setCell (p:=⟨w.heap.size+2,2,none⟩) (by simp) (.slice none 0 0)
  refine bodyPost_ret (v:=.tuple #[.agg #[.slice none 0 0,.slice none 0 0,.slice none 0 0],.int .i64 1]) (by simp[results,Tryz.results143,go_sem,r0,r1,r2]) rfl ⟨_,_,_,by rw[HE.out],by rw[HTT.out];exact Qo _ _,by rw[HCC.out];exact SlA.nil,hBW⟩
 rw[hz]at h30
 simp only[Bool.not_true]at h30
 have HE:Hid (wrtE t s d=0):=by unfold Hid wrtE wrtB;rw[hc,hz];rfl
 have HTT:Hid (wrtT t s d=.mk [⟨d.dc,d.n,s,0⟩] []):=by unfold Hid wrtT wrtB;rw[hc,hz];rfl
 have HCC:Hid (wrtC t s d=ctxOf (d :: ownD t)):=by unfold Hid wrtC wrtB;rw[hc,hz];rfl
 have hdr:=Zt hc
 have htr:=Ym hc
 have HRA:Hid (∀ x∈d :: ownD t,x.right=true):=fun x hx=>by
  rcases List.mem_cons.1 hx with rfl|hx
  ·exact hdr
  ·exact qJ7 htr x hx
 clear hc hz hdr htr
 have HGB:Hid (∀ w',Below w1.heap.size w1 w'->w'.cell? ⟨w.heap.size+1,0,none⟩=some (.int .i64 d.dc)/\w'.cell? ⟨w.heap.size+1,1,none⟩=some (.int .i64 d.n)/\w'.heap[w.heap.size+2]?=some (.cells #[.slice none 0 0,.slice none 0 0,.slice none 0 0] 29 (0,0))):=fun w' hb=>
  ⟨(hb.cell (p:=⟨w.heap.size+1,0,none⟩) (by show w.heap.size+1<_;omega)).trans d0,(hb.cell (p:=⟨w.heap.size+1,1,none⟩) (by show w.heap.size+1<_;omega)).trans d1,(hb.block _ (by omega)).trans HG.out⟩
 have hlt0:w.heap.size<w1.heap.size:=by omega
 have hne0:w.heap.size≠w1.heap.size:=by omega
 have hne1:w.heap.size+1≠w1.heap.size:=by omega
 clear k0 k1 k2 z0 z1 z2
 have HW0:Hid (OwnP (w1.alloc (.cells #[.int .i64 d.dc,.int .i64 d.n] 78)) w1.heap.size 78 2 DtE (.slice (some ⟨w1.heap.size,0,none⟩) 1 1) [d]):=OwnP.single (x:=d) (cs:=[.int .i64 d.dc,.int .i64 d.n]) ⟨rfl,hd⟩ rfl (Qd rfl) (Nat.le_refl _)
 have hel:t.es.length<=4000:=by unfold ownD at hol;rw[List.length_map]at hol;omega
 go_wp2_with fail
 go_loopw [9,30] (fun v i wr=>∃ k:Nat,k<=t.es.length/\i=.int .i64 k/\OwnP wr w1.heap.size 78 2 DtE v (d :: (t.es.take k).map En.dot)/\Below w1.heap.size w1 wr) (fun _ i _=>t.es.length-(intOf i).toNat)
 case atStart=>exact⟨0,Nat.zero_le _,rfl,HW0.out,(Below.refl _ w1).alloc (Nat.le_refl _) _⟩
 case round=>
  obtain⟨k,hk,rfl,hown,hb⟩:=hrel
  have hsz:=hb.size
  have hB0:Below w.heap.size w wr:=hB1.trans (hb.mono (by omega))
  by_cases hlt:k<t.es.length
  ·obtain⟨x,hx⟩:∃ x,t.es[k]?=some x:=⟨_,List.getElem?_eq_getElem hlt⟩
   obtain⟨Ae,ne,hve,_,_,b3⟩:=HSL.out
   cases hve
   obtain⟨b,off,rfl,hbB,hcc⟩:=b3 (by intro h0;rw[h0]at hlt;simp at hlt)
   obtain⟨cs,⟨rfl,hok⟩,_,hu⟩:=hcc k _ hx
   have e0:wr.cell? ⟨b,off+k*4,none⟩=some (.int .i64 x.dc):=(hB0.cell hbB).trans (hu 0 _ rfl)
   have e1:wr.cell? ⟨b,off+k*4+1,none⟩=some (.int .i64 x.n):=(hB0.cell hbB).trans (hu 1 _ rfl)
   have e2:wr.cell? ⟨b,off+k*4+2,none⟩=some (.string x.s):=(hB0.cell hbB).trans (hu 2 _ rfl)
   have e3:wr.cell? ⟨b,off+k*4+3,none⟩=some (.int .i64 x.v):=(hB0.cell hbB).trans (hu 3 _ rfl)
   have hdx:x.dot.Ok:=⟨hok.dc,hok.n⟩
   have HX:Hid (d :: (t.es.take (k+1)).map En.dot=d :: (t.es.take k).map En.dot++[x.dot]):=by
    unfold Hid;rw[List.take_add_one,hx];simp
   have HL:Hid ((d :: (t.es.take k).map En.dot).length + [x.dot].length<=Few):=by unfold Hid Few;simp;omega
   have HBW:Hid (w1.heap.size<=wr.heap.size+1+1):=by unfold Hid;omega
   clear hu hcc b3 hx hok c0 c1 d0 d1
   go_wp2_with (at_builtin;go_loud (refine Ql rfl (.tmp 34) (.tmp 37) _ rfl eiDot (by decide) (by decide) (fun _ _ h=>h.one) rfl ((hown.alloc _).alloc _) rfl (SlP.one (x:=x.dot) (cs:=[.int .i64 x.dc,.int .i64 x.n]) ⟨rfl,hdx⟩ rfl _ (World.size_alloc _ _).symm) HL.out (by rw[World.size_alloc,World.size_alloc];exact HBW.out) ?_);intro v1 w2 hown1 hb1 _)
   go_roundw
   case rel=>
    refine⟨k+1,by omega,by go_num,by rw[HX.out];exact hown1,((hb.alloc (by omega) _).alloc (by simp;omega) _).trans hb1⟩
   case measure=>simp[intOf];omega
  ·obtain rfl:k=t.es.length:=by omega
   rw[List.take_of_length_le (Nat.le_refl _)]at hown
   have hown:OwnP wr w1.heap.size 78 2 DtE _ (d :: ownD t):=hown
   have HO:=hid (hown.sl (by unfold Big;simp;omega))
   clear hown c0 c1 d0 d1
   go_wp2_with fail
   refine (Jd (d :: ownD t) _ wr HO.out HRA.out (by simp;omega)).mono ?_
   rintro e w2 ⟨v2,rfl,ho2,hb2⟩
   obtain⟨A5,c5,rfl⟩:=ho2.shape
   have hs2:=hb2.size
   have hB2:Below w1.heap.size w1 w2:=hb.trans (hb2.mono (by omega))
   obtain⟨d0,d1,g6⟩:=HGB.out w2 hB2
   have HG2:=hid g6
   have k0:w2.cell? ⟨w.heap.size+2,0,none⟩=some (.slice none 0 0):=Qa (i:=0) g6
   have k1:w2.cell? ⟨w.heap.size+2,1,none⟩=some (.slice none 0 0):=Qa (i:=1) g6
   have k2:w2.cell? ⟨w.heap.size+2,2,none⟩=some (.slice none 0 0):=Qa (i:=2) g6
   have z0:=Qb (i:=0) g6
   have z1:=Qb (i:=1) g6
   have z2:=Qb (i:=2) g6
   have HO2:=hid ho2
   have hcl:=QL (d :: ownD t)
   have hlt2:w.heap.size+2<w2.heap.size:=by omega
   have hne2:w.heap.size+2≠w2.heap.size:=by omega
   clear g6 ho2
   generalize ctxOf (d :: ownD t)=C at *
   go_wp2_with fail
   obtain⟨r0,r1,r2,hK,hS⟩:=box3 HG2.out (.slice (some ⟨w2.heap.size,0,none⟩) 1 1) (.slice none 0 0) (.slice A5 C.length c5)
   have hBW:Below w.heap.size w (((w2.setCell ⟨w.heap.size+2,0,none⟩ (.slice (some ⟨w2.heap.size,0,none⟩) 1 1)).setCell ⟨w.heap.size+2,1,none⟩ (.slice none 0 0)).setCell ⟨w.heap.size+2,2,none⟩ (.slice A5 C.length c5)):=(((hB1.trans (hB2.mono (by omega))).setCell (by simp) _).setCell (by simp) _).setCell (by simp) _
   clear k0 k1 k2 z0 z1 z2
   generalize (((w2.setCell ⟨w.heap.size+2,0,none⟩ (.slice (some ⟨w2.heap.size,0,none⟩) 1 1)).setCell ⟨w.heap.size+2,1,none⟩ (.slice none 0 0)).setCell ⟨w.heap.size+2,2,none⟩ (.slice A5 C.length c5))=W at *
   have q0:(W.alloc (.cells #[.int .i64 d.dc,.int .i64 d.n,.string s,.int .i64 0] 80)).cell? ⟨w.heap.size+1+1,0,none⟩=some (.slice (some ⟨w2.heap.size,0,none⟩) 1 1):=by rw[World.cell?_alloc_lt _ _ _ (by show w.heap.size+2<_;omega)];exact r0
   have q1:(W.alloc (.cells #[.int .i64 d.dc,.int .i64 d.n,.string s,.int .i64 0] 80)).cell? ⟨w.heap.size+1+1,1,none⟩=some (.slice none 0 0):=by rw[World.cell?_alloc_lt _ _ _ (by show w.heap.size+2<_;omega)];exact r1
   have q2:(W.alloc (.cells #[.int .i64 d.dc,.int .i64 d.n,.string s,.int .i64 0] 80)).cell? ⟨w.heap.size+1+1,2,none⟩=some (.slice A5 C.length c5):=by rw[World.cell?_alloc_lt _ _ _ (by show w.heap.size+2<_;omega)];exact r2
   refine bodyPost_ret (v:=.tuple #[.agg #[.slice (some ⟨w2.heap.size,0,none⟩) 1 1,.slice none 0 0,.slice A5 C.length c5],.int .i64 0]) (by simp[results,Tryz.results143,go_sem,q0,q1,q2]) rfl ⟨_,_,_,by rw[HE.out],?_,?_,hBW.alloc (by omega) _⟩
   ·rw[HTT.out,ZC]
    refine⟨?_,SlA.nil⟩
    exact SlA.one (x:=(⟨d.dc,d.n,s,0⟩:En)) (cs:=[.int .i64 d.dc,.int .i64 d.n,.string s,.int .i64 0]) (e:=80) (z:=(0,0)) (wrtEn hd hs) rfl (Qd hS.symm) ⟨by omega,by rw[World.size_alloc];omega⟩
   ·rw[HCC.out]
    refine (HO2.out.sla (by unfold Big;simp at hcl;omega)).up (fun b hb=>(Qg (by have:=hb.2.1;omega)).trans (hK b (by have:=hb.1;omega))) (fun b hb=>⟨by have:=hb.1;omega,by rw[World.size_alloc];have:=hb.2.1;omega⟩) (fun _ _ _ h=>h)
def kindB (k:ByteArray):Int:=match k.data.toList with
 |[]=>0
 |b :: _=>if b=102 then 1 else if b=115 then 2 else if b=99 then 3 else if b=114 then 4 else if b=109 then 5 else 0
def Q6 (k:ByteArray):Bool:=decide (30<k.size)||decide (kindB k=0)
def noMap (k:ByteArray):Bool:=!decide (kindB k=5)
def pathI (p:List ByteArray):Int:=if p.length<1∨3<p.length∨p.any Q6=true then 1 else if p.dropLast.any noMap then 6 else 0
def lastK (p:List ByteArray):ByteArray:=(p[p.length-1]?).getD ByteArray.empty
def actB (a k:Int):Bool:=if a=1∨a=2 then decide (k=1) else if a=3∨a=4 then decide (k=2) else if a=5 then decide (k=3) else if a=6 then decide (k=4) else decide (a=7)
def opTxt (o:Opr):Bool:=if o.act=3∨o.act=4 then keyB o.s else if o.act=6 then decide (o.s.size<=30) else decide (o.s.size=0)
def opNum (o:Opr):Bool:=if o.act=5 then decide (-1099511627776<=o.n/\o.n<=1099511627776) else decide (o.n=0)
def opI (o:Opr):Int:=if pathI o.path≠0 then pathI o.path else if !actB o.act (kindB (lastK o.path)) then 6 else if opTxt o&&opNum o then 0 else 1
def Qv (a:Int):Bool:=decide (a=1∨a=3∨a=5∨a=6)
def endP (o:Opr):List ByteArray:=o.path++(if o.act=3 then [o.s] else [])
def fullAt (t:Tr)(p:List ByteArray)(k:Nat):Bool:=decide (24<=(getK t (p.take k)).ks.length)&&!hasK (getK t (p.take k)) ((p[k]?).getD ByteArray.empty)
def fullP (t:Tr)(p:List ByteArray):Bool:=(List.range p.length).any (fullAt t p)
def fullB (t:Tr)(o:Opr):Bool:=Qv o.act&&(fullP t (endP o)||decide (o.act=5)&&decide (24<=(getK t (endP o)).es.length))
def seesD (t:Tr)(o:Opr):List Dt:=if o.act=3∨o.act=4 then (getK t (o.path++[o.s])).dots else if o.act=5 then [] else if o.act=6 then ownD (getK t o.path) else (getK t o.path).dots
def entE (o:Opr)(d:Dt):En:=⟨d.dc,d.n,if o.act=6 then o.s else ByteArray.empty,o.n⟩
def pathT:List ByteArray->En->Tr
 |[],e=>.mk [e] []
 |k :: p,e=>.mk [] [(k,pathT p e)]
def appI (t:Tr)(o:Opr)(d:Dt):Int:=if !t.right 5 then 1 else if opI o≠0 then opI o else if !chkT t d then 1 else if fullB t o then 4 else 0
def appT (t:Tr)(o:Opr)(d:Dt):Tr:=if appI t o d=0/\Qv o.act=true then pathT (endP o) (entE o d) else .mk [] []
def appC (t:Tr)(o:Opr)(d:Dt):List Sp:=if appI t o d=0 then ctxOf (d :: seesD t o) else []
theorem Jf (t:Tr):empB t.es.length t.ks.length=t.empty:=by
 obtain⟨es,ks⟩:=t
 rw[Bool.eq_iff_iff];simp[empB,Tr.empty,Tr.es,Tr.ks]
def joinK (a b:Tr):List ByteArray:=cmpL (srtL ((a.ks++b.ks).map (·.1)))
def joinF (f:ByteArray->Tr)(k:ByteArray):List Kd:=if (f k).empty then [] else [(k,f k)]
def joinT:Nat->List Sp->List Sp->Tr->Tr->Tr
 |0,_,_,_,_=>.mk [] []
 |n+1,ca,cb,a,b=>.mk (entL ca cb a.es b.es) ((joinK a b).flatMap (joinF fun k=>joinT n ca cb (kidT a k) (kidT b k)))
theorem qVw (f:ByteArray->Tr)(k:ByteArray):(joinF f k).length<=1:=by unfold joinF;split<;>simp
theorem Jg (f:ByteArray->Tr):∀ l:List ByteArray,(l.flatMap (joinF f)).length<=l.length
 |[]=>by simp
 |k :: l=>by
  have h1:=qVw f k
  have h2:=Jg f l
  rw[List.flatMap_cons,List.length_append,List.length_cons];omega
theorem qJ9 {l:List ByteArray}{k:Nat}{x:ByteArray}(h:l[k]?=some x)(f:ByteArray->Tr):(l.take (k+1)).flatMap (joinF f)=(l.take k).flatMap (joinF f)++joinF f x:=by
 rw[List.take_add_one,h,List.flatMap_append];simp
theorem zQq (l:List ByteArray):(cmpL l).length<=l.length:=by
 unfold cmpL
 have:=Lib.compact_length_le (l.map toBy)
 rw[List.length_map]at this ⊢;exact this
theorem zQr {l:List ByteArray}{x:ByteArray}(h:x∈cmpL l):x∈l:=by
 unfold cmpL at h
 obtain⟨y,hy,rfl⟩:=List.mem_map.1 h
 unfold Lib.compact Lib.compactUpTo at hy
 obtain⟨j,hj,rfl⟩:=List.mem_map.1 hy
 have hj':j<(l.map toBy).length:=List.mem_range.1 (List.mem_filter.1 hj).1
 rw[getElem!_pos _ j (by simpa using hj')]
 simp[qVs]
theorem zQs {l:List ByteArray}{x:ByteArray}(h:x∈srtL l):x∈l:=by
 unfold srtL at h
 obtain⟨y,hy,rfl⟩:=List.mem_map.1 h
 obtain⟨z,hz,rfl⟩:=List.mem_map.1 ((List.mergeSort_perm _ _).subset hy)
 exact hz
theorem qVx {a b:Tr}{x:ByteArray}(h:x∈joinK a b):∃ t,(x,t)∈a.ks∨(x,t)∈b.ks:=by
 have:=zQs (zQr h)
 obtain⟨⟨k,t⟩,hm,rfl⟩:=List.mem_map.1 this
 rcases List.mem_append.1 hm with h|h
 ·exact⟨t,.inl h⟩
 ·exact⟨t,.inr h⟩
theorem qVy (a b:Tr):(joinK a b).length<=a.ks.length+b.ks.length:=by
 unfold joinK
 have h1:=zQq (srtL ((a.ks++b.ks).map (·.1)))
 rw[JA,List.length_map,List.length_append]at h1
 exact h1
theorem J8 (t:Tr):1<=t.dep:=by obtain⟨es,ks⟩:=t;rw[Tr.dep];omega
theorem Jh {t u:Tr}{k:ByteArray}(h:(k,u)∈t.ks):u.dep+1<=t.dep:=by
 obtain⟨es,ks⟩:=t
 rw[Tr.dep];have:=qZz (show (k,u)∈ks from h);omega
theorem YZ {t:Tr}(ho:t.Ord){n:Nat}(h:t.dep<=n+1)(hn:1<=n)(k:ByteArray):(kidT t k).dep<=n:=by
 by_cases hm:∃ u,(k,u)∈t.ks
 ·obtain⟨u,hm⟩:=hm
  rw[YT ho hm];have:=Jh hm;omega
 ·rw[YF fun u hu=>hm ⟨u,hu⟩];simp[Tr.dep,Tr.depL];omega
theorem YK {a b:Tr}{n:Nat}(ha:a.dep<=n+1)(hb:b.dep<=n+1){x:ByteArray}(h:x∈joinK a b):1<=n:=by
 obtain⟨t,h|h⟩:=qVx h
 ·have:=Jh h;have:=J8 t;omega
 ·have:=Jh h;have:=J8 t;omega
theorem es_sz (t:Tr):t.es.length+t.ks.length<=t.sz:=by
 obtain⟨es,ks⟩:=t
 have:=Vu ks
 rw[Tr.sz];simp only[Tr.es,Tr.ks];omega
theorem zZ2 {t:Tr}{w:World}{B:Nat}{ve vk:Value}(h:t.rd w B ve vk):SlP w B 4 EnE ve t.es:=by
 obtain⟨es,ks⟩:=t;exact (QE.1 h).1
theorem XK {w w':World}{o:Obj}(h:Below (w.alloc o).heap.size (w.alloc o) w'):Below w.heap.size w w':=((Below.refl _ w).alloc (Nat.le_refl _) o).trans (h.mono (by simp))
theorem zXr {wr w7:World}{n N:Nat}{x y u v:Value}{e:TypeId}{t:Tr}(hbox:w7.heap[n]?=some (.cells #[x,y] e (0,0)))(hn:wr.heap.size<=n)(hb:Below wr.heap.size wr w7)(hr:t.rda w7 (fun b=>N<=b/\b<w7.heap.size) u v)(hnN:n<N) :
  ∀ W,Below ((w7.setCell ⟨n,0,none⟩ u).setCell ⟨n,1,none⟩ v).heap.size ((w7.setCell ⟨n,0,none⟩ u).setCell ⟨n,1,none⟩ v) W->W.cell? ⟨n,0,none⟩=some u/\W.cell? ⟨n,1,none⟩=some v/\Below wr.heap.size wr W/\t.rda W (fun b=>wr.heap.size<=b/\b<W.heap.size) u v:=by
 intro W hW
 have hsz:((w7.setCell ⟨n,0,none⟩ u).setCell ⟨n,1,none⟩ v).heap.size=w7.heap.size:=by simp[World.setCell]
 rw[hsz]at hW
 have hlt:=lt_of_block hbox
 have hg:W.heap[n]?=some (.cells #[u,v] e (0,0)):=(hW.block n hlt).trans (by simpa using Qe (i:=1) (Qe (i:=0) hbox u) v)
 have hs:=hW.size
 rw[hsz]at hs
 refine⟨Qa (i:=0) hg,Qa (i:=1) hg,((hb.setCell hn _).setCell hn _).trans (hW.mono hb.size),Qp (fun b hb'=>?_) (fun b hb'=>⟨by omega,by omega⟩) _ _ _ hr⟩
 rw[hW.block b hb'.2]
 exact (Below.heap_setCell _ _ _ _ (by simp;omega)).trans (Below.heap_setCell _ _ _ _ (by simp;omega))
theorem zXs {wr w7:World}{N:Nat}{u v:Value}{e:TypeId}{t:Tr}(hb:Below wr.heap.size wr w7)(hr:t.rda w7 (fun b=>N<=b/\b<w7.heap.size) u v)(hN:wr.heap.size<=N) :
  ∀ W,Below (w7.alloc (.cells #[u,v] e)).heap.size (w7.alloc (.cells #[u,v] e)) W->W.cell? ⟨w7.heap.size,0,none⟩=some u/\W.cell? ⟨w7.heap.size,1,none⟩=some v/\Below wr.heap.size wr W/\t.rda W (fun b=>wr.heap.size<=b/\b<W.heap.size) u v:=by
 intro W hW
 have hg:W.heap[w7.heap.size]?=some (.cells #[u,v] e (0,0)):=(hW.block _ (by simp)).trans (Qd rfl)
 have hs:=hW.size
 rw[World.size_alloc]at hs
 refine⟨Qa (i:=0) hg,Qa (i:=1) hg,(hb.alloc hb.size _).trans (hW.mono (by have:=hb.size;simp;omega)),Qp (fun b hb'=>?_) (fun b hb'=>⟨by omega,by omega⟩) _ _ _ hr⟩
 rw[hW.block b (by rw[World.size_alloc];omega)]
 exact Qg hb'.2
theorem qKa (ca cb:List Sp)(hN1:ca.length<=900000)(hN2:cb.length<=900000):∀ (n:Nat) (a b:Tr) (va ka vb kb vca vcb:Value) (w:World),a.rd w w.heap.size va ka->b.rd w w.heap.size vb kb->SlP w w.heap.size 3 SpE vca ca->SlP w w.heap.size 3 SpE vcb cb->a.Ord->b.Ord->a.dep<=n->b.dep<=n->a.sz<=100000->b.sz<=100000 ->
  Calls Tryz.prog 111 #[.agg #[va,ka],.agg #[vb,kb],vca,vcb] w (RetT w (joinT n ca cb a b)):=by
 intro n
 induction n with
 |zero=>intro a b _ _ _ _ _ _ w _ _ _ _ _ _ h _ _ _;have:=J8 a;omega
 |succ n ih=>
 intro a b va ka vb kb vca vcb w ha hb hca hcb hoa hob hda hdb hza hzb
 have HA:=hid ha
 have HB:=hid hb
 have HCA:Hid (∀ w',Below w.heap.size w w'->SlP w' w'.heap.size 3 SpE vca ca):=fun w' hb=>hca.imp hb hb.size fun _ _ _ h=>h
 have HCB:Hid (∀ w',Below w.heap.size w w'->SlP w' w'.heap.size 3 SpE vcb cb):=fun w' hb=>hcb.imp hb hb.size fun _ _ _ h=>h
 have hea:=es_sz a
 have heb:=es_sz b
 have hel:=Yw ca cb _ a.es b.es (Nat.le_refl _)
 obtain⟨A1,n1,A2,n2,rfl,rfl⟩:=Qk ha
 obtain⟨A3,n3,A4,n4,rfl,rfl⟩:=Qk hb
 obtain⟨A5,n5,rfl,_⟩:=hca
 obtain⟨A6,n6,rfl,_⟩:=hcb
 have hb0:Below w.heap.size w (((w.alloc (.cells #[.slice A1 a.es.length n1,.slice A2 a.ks.length n2] 25)).alloc (.cells #[.slice A3 b.es.length n3,.slice A4 b.ks.length n4] 25)).alloc (.cells #[.slice none 0 0,.slice none 0 0] 25)):=(((Below.refl _ w).alloc (Nat.le_refl _) _).alloc (by simp) _).alloc (by simp;omega) _
 have HW:Hid (∀ w',Below (w.heap.size+3) (((w.alloc (.cells #[.slice A1 a.es.length n1,.slice A2 a.ks.length n2] 25)).alloc (.cells #[.slice A3 b.es.length n3,.slice A4 b.ks.length n4] 25)).alloc (.cells #[.slice none 0 0,.slice none 0 0] 25)) w'->Below w.heap.size w w'/\w.heap.size+3<=w'.heap.size/\w'.heap[w.heap.size]?=some (.cells #[.slice A1 a.es.length n1,.slice A2 a.ks.length n2] 25 (0,0))/\w'.heap[w.heap.size+1]?=some (.cells #[.slice A3 b.es.length n3,.slice A4 b.ks.length n4] 25 (0,0))/\w'.heap[w.heap.size+2]?=some (.cells #[.slice none 0 0,.slice none 0 0] 25 (0,0))):=fun w' hb=>
  ⟨hb0.trans (hb.mono (by omega)),by have:=hb.size;simpa using this,(hb.block _ (by omega)).trans ((Qg (by simp<;>omega)).trans ((Qg (by simp)).trans (Qd rfl))),(hb.block _ (by omega)).trans ((Qg (by simp)).trans (Qd (by simp))),(hb.block _ (by omega)).trans (Qd (by simp))⟩
 have HOA:=hid hoa
 have HOB:=hid hob
 clear ha hb hoa hob
 go_enter Tryz.func111,Tryz.ntmps111
 go_wp2_with fail
 refine (qQr a.es b.es ca cb _ _ _ _ _ ((zZ2 HA.out).imp hb0 hb0.size fun _ _ _ h=>h) ((zZ2 HB.out).imp hb0 hb0.size fun _ _ _ h=>h) (HCA.out _ hb0) (HCB.out _ hb0) (by omega) hN1 hN2).mono ?_
 rintro e w1 ⟨v1,rfl,ho1,hb1⟩
 obtain⟨Ae,ce,rfl⟩:=OwnP.shape ho1
 have HO1:=hid ho1
 have hJ:joinT (n+1) ca cb a b=.mk (entL ca cb a.es b.es) ((joinK a b).flatMap (joinF fun k=>joinT n ca cb (kidT a k) (kidT b k))):=rfl
 have HJ:=hid hJ
 generalize entL ca cb a.es b.es=E at *
 have hb1':=hid (hb1.mono (show w.heap.size+3<=_ by simp))
 obtain⟨hB1,hs1,g0,g1,g2⟩:=HW.out _ hb1'.out
 have a1:w1.cell? ⟨w.heap.size,1,none⟩=some (.slice A2 a.ks.length n2):=Qa (i:=1) g0
 have b1:w1.cell? ⟨w.heap.size+1,1,none⟩=some (.slice A4 b.ks.length n4):=Qa (i:=1) g1
 have hlt0:w.heap.size<w1.heap.size:=by omega
 have hlt1:w.heap.size+1<w1.heap.size:=by omega
 have hne0:w.heap.size≠w1.heap.size:=by omega
 have hne1:w.heap.size+1≠w1.heap.size:=by omega
 clear ho1 hJ g0 g1 g2 hb1
 have hb2:Below w.heap.size w ((w1.alloc (.cells #[.slice Ae E.length ce,.slice none 0 0] 25)).alloc (.cells #[.slice A2 a.ks.length n2,.slice A4 b.ks.length n4] 23)):=(hB1.alloc (by omega) _).alloc (by simp;omega) _
 go_wp2_with fail
 refine (qZ2 w w.heap.size a.ks b.ks _ _ (w1.heap.size+1) _ (by simp) (by simp) (by simp) ((Xz HA.out).imp hb2 hb2.size fun _ _ _ h=>h) ((Xz HB.out).imp hb2 hb2.size fun _ _ _ h=>h) (by omega) (by omega)).mono ?_
 rintro e w2 ⟨v2,rfl,ho2,hb3⟩
 have hs2:=hb3.size
 simp only[World.size_alloc]at hs2
 have hb12:Below (w1.heap.size+1) (w1.alloc (.cells #[.slice Ae E.length ce,.slice none 0 0] 25)) w2:=((Below.refl _ _).alloc (by simp) _).trans (hb3.mono (by simp))
 obtain⟨Ac,cc,rfl⟩:=OwnP.shape ho2
 have HSL:=hid (ho2.sl (by unfold Big;simp;omega))
 have HB12:=hid hb12
 clear ho2 hb3 hb12 a1 b1 hb2
 obtain⟨KS,hKS⟩:∃ KS,KS=a.ks++b.ks:=⟨_,rfl⟩
 have hKl:KS.length<=200000:=by rw[hKS,List.length_append];omega
 rw[←hKS]at HSL ⊢
 have HKS:=hid hKS
 clear hKS
 go_wp2_with fail
 go_loopw [10,31] (fun v i wr=>∃ k:Nat,k<=KS.length/\i=.int .i64 k/\OwnP wr w2.heap.size 9 1 StE v ((KS.take k).map (·.1))/\Below w2.heap.size w2 wr) (fun _ i _=>KS.length-(intOf i).toNat)
 case atStart=>exact⟨0,Nat.zero_le _,rfl,OwnP.nil,Below.refl _ _⟩
 case round=>
  obtain⟨k,hk,rfl,hown,hb⟩:=hrel
  have hsz:=hb.size
  by_cases hlt:k<KS.length
  ·obtain⟨⟨key,t⟩,hx⟩:∃ x,KS[k]?=some x:=⟨_,List.getElem?_eq_getElem hlt⟩
   obtain⟨A,m,hv,c1,c2,c3⟩:=HSL.out
   cases hv
   obtain⟨b,off,rfl,hbB,hc⟩:=c3 (by rintro rfl;simp at hlt)
   obtain⟨cs,⟨ve',vk',rfl,hkb,hrd⟩,_,hu⟩:=hc k _ hx
   obtain⟨A5,n5,A6,n6,rfl,rfl⟩:=Qk hrd
   have e0:wr.cell? ⟨b,off+k*3,none⟩=some (.string key):=(hb.cell hbB).trans (hu 0 _ rfl)
   have e1:wr.cell? ⟨b,off+k*3+1,none⟩=some (.slice A5 t.es.length n5):=(hb.cell hbB).trans (hu 1 _ rfl)
   have e2:wr.cell? ⟨b,off+k*3+2,none⟩=some (.slice A6 t.ks.length n6):=(hb.cell hbB).trans (hu 2 _ rfl)
   have HX:Hid ((KS.take (k+1)).map (·.1)=(KS.take k).map (·.1)++[key]):=by unfold Hid;rw[List.take_add_one,hx];simp
   have HL:Hid (((KS.take k).map (·.1)).length + [key].length<=Few):=by unfold Hid Few;simp;omega
   have HKY:Hid (StE key [.string key]):=⟨rfl,hkb⟩
   clear hu hc c3 hx hrd
   go_wp2_with (at_builtin;go_loud ((with_reducible refine Ql rfl (.tmp 35) (.tmp 38) _ rfl eiStr (by decide) (by decide) (fun _ _ h=>StE.one h) rfl ((hown.alloc _).alloc _) rfl (SlP.oneN (x:=key) HKY.out rfl _ rfl) HL.out (by simp only[World.size_alloc];omega) ?_);intro v1 w3 hown1 hb2 _;have hb3:=(((Below.refl w2.heap.size wr).alloc (by omega) _).alloc (by simp only[World.size_alloc];omega) _).trans hb2))
   go_roundw
   case rel=>exact⟨k+1,by omega,by go_num,by rw[HX.out];exact hown1,hb.trans hb3⟩
   case measure=>simp[intOf];omega
  ·obtain rfl:k=KS.length:=by omega
   rw[List.take_of_length_le (Nat.le_refl _)]at hown
   go_wp2_with fail
   refine (Xi _ _ _ _ hown (by simp;omega) hsz).mono ?_
   rintro e w3 ⟨rfl,ho3,hb3⟩
   have hs3:w2.heap.size<=w3.heap.size:=Nat.le_trans hsz hb3.size
   go_wp2_with fail
   refine (Yf _ _ _ _ ho3 (by rw[JA];simp;omega) hs3).mono ?_
   rintro e w4 ⟨v4,rfl,ho4,hb4⟩
   have hs4:w2.heap.size<=w4.heap.size:=Nat.le_trans hs3 hb4.size
   have hKK:cmpL (srtL (KS.map (·.1)))=joinK a b:=by unfold joinK;rw[HKS.out]
   rw[hKK]at ho4
   have hkl:=qVy a b
   have hB24:Below w2.heap.size w2 w4:=(hb.trans hb3).trans hb4
   have HKM:Hid (∀ x∈joinK a b,1<=n):=fun x hx=>YK hda hdb hx
   clear hKK hown ho3 hb hb3 hb4 hsz hs3 hlt hk
   have hB14:Below (w1.heap.size+1) (w1.alloc (.cells #[.slice Ae E.length ce,.slice none 0 0] 25)) w4:=HB12.out.trans (hB24.mono (by omega))
   have HG4:Hid (w4.heap[w1.heap.size]?=some (.cells #[.slice Ae E.length ce,.slice none 0 0] 25 (0,0))):=(hB14.block _ (by omega)).trans (Qd rfl)
   have HB14:Hid (Below w1.heap.size w1 w4):=((Below.refl _ w1).alloc (Nat.le_refl _) _).trans (hB14.mono (by omega))
   have HSLA:=hid (ho4.sla (by unfold Big;omega))
   obtain⟨A9,c9,hv4⟩:=OwnP.shape ho4
   subst hv4
   clear ho4 hB14 hB24 wr
   have hJK:Hid ((joinK a b).flatMap (joinF fun k=>joinT n ca cb (kidT a k) (kidT b k))=(joinK a b).flatMap (joinF fun k=>joinT n ca cb (kidT a k) (kidT b k))):=rfl
   generalize hKKe:joinK a b=KK at *
   have HKKe:=hid hKKe
   clear hKKe
   generalize hFF:(fun k=>joinT n ca cb (kidT a k) (kidT b k))=F at *
   have HF:Hid (∀ k,F k=joinT n ca cb (kidT a k) (kidT b k)):=fun k=>by rw[←hFF]
   clear hFF hJK
   have hlt4:w1.heap.size<w4.heap.size:=by omega
   go_wp2_with fail
   go_loopw [46] (fun i wr=>∃ k:Nat,k<=KK.length/\i=.int .i64 k/\∃ Ak ck,wr.heap[w1.heap.size]?=some (.cells #[.slice Ae E.length ce,.slice Ak ((KK.take k).flatMap (joinF F)).length ck] 25 (0,0)) /\
     OwnD wr w4.heap.size 96 3 KdA (fun b=>w4.heap.size<=b) (.slice Ak ((KK.take k).flatMap (joinF F)).length ck) ((KK.take k).flatMap (joinF F))/\w4.heap.size<=wr.heap.size/\Below w1.heap.size w1 wr/\∀ b,w1.heap.size<b->b<w4.heap.size->wr.heap[b]?=w4.heap[b]?) (fun i _=>KK.length-(intOf i).toNat)
   case atStart=>exact⟨0,Nat.zero_le _,rfl,none,0,HG4.out,OwnP.nil,Nat.le_refl _,HB14.out,fun _ _ _=>rfl⟩
   case round=>
    obtain⟨k,hk,rfl,Ak,ck,hg,hown,hsz,hb,hkp⟩:=hrel
    have hB0:Below w.heap.size w wr:=hB1.trans (hb.mono (by omega))
    have hszk:=hown.lt
    by_cases hlt:k<KK.length
    ·obtain⟨key,hx⟩:∃ x,KK[k]?=some x:=⟨_,List.getElem?_eq_getElem hlt⟩
     obtain⟨A,m,hv,c1,c2,c3⟩:=HSLA.out
     cases hv
     obtain⟨b',off,rfl,hbB,hc⟩:=c3 (by rintro rfl;simp at hlt)
     obtain⟨cs,⟨rfl,hkb⟩,_,hu⟩:=hc k _ hx
     have e0:wr.cell? ⟨b',off+k,none⟩=some (.string key):=(by unfold World.cell?;rw[hkp b' (by have:=hbB.1;omega) hbB.2.1]:wr.cell? ⟨b',off+k,none⟩=w4.cell? ⟨b',off+k,none⟩).trans (by simpa using hu 0 _ rfl)
     have hn1:=HKM.out key (List.mem_of_getElem? hx)
     have HX:=hid (qJ9 hx F)
     have HJL:=Jg F (KK.take k)
     rw[List.length_take]at HJL
     generalize (KK.take k).flatMap (joinF F)=js at *
     have HL:Hid (js.length + [(key,F key)].length<=Few):=by unfold Hid Few;simp;omega
     have HKB:=hid hkb
     have HC8:Hid (∀ W,Below wr.heap.size wr W->(W.cell? ⟨w.heap.size,0,none⟩=some (.slice A1 a.es.length n1)/\W.cell? ⟨w.heap.size,1,none⟩=some (.slice A2 a.ks.length n2)/\W.cell? ⟨w.heap.size+1,0,none⟩=some (.slice A3 b.es.length n3)/\W.cell? ⟨w.heap.size+1,1,none⟩=some (.slice A4 b.ks.length n4))/\Below w.heap.size w W):=fun W hW=>by
      obtain⟨q0,_,q1,q2,_⟩:=HW.out W (hb1'.out.trans ((hb.mono (by omega)).trans (hW.mono (by omega))))
      exact⟨⟨Qa (i:=0) q1,Qa (i:=1) q1,Qa (i:=0) q2,Qa (i:=1) q2⟩,q0⟩
     have HRA:Hid (∀ W,Below wr.heap.size wr W->a.rd W W.heap.size (.slice A1 a.es.length n1) (.slice A2 a.ks.length n2)):=fun W hW=>Qi (HC8.out W hW).2 (HC8.out W hW).2.size _ _ _ HA.out
     have HRB:Hid (∀ W,Below wr.heap.size wr W->b.rd W W.heap.size (.slice A3 b.es.length n3) (.slice A4 b.ks.length n4)):=fun W hW=>Qi (HC8.out W hW).2 (HC8.out W hW).2.size _ _ _ HB.out
     obtain⟨⟨q0,q1,q2,q3⟩,_⟩:=HC8.out wr (Below.refl _ _)
     have HIH:=hid (ih (kidT a key) (kidT b key))
     have HDA:=hid (YZ HOA.out hda hn1 key)
     have HDB:=hid (YZ HOB.out hdb hn1 key)
     have HZA:=hid (Nat.le_trans (YG a key) hza)
     have HZB:=hid (Nat.le_trans (YG b key) hzb)
     have hFk:=HF.out key
     have HFK:=hid hFk
     clear hu hc c3 hx hkb hn1 hFk ih
     go_upto_region 12 with (fail)
     go_region_held3 (fun w'=>w'.cell? ⟨w.heap.size,0,none⟩=some (.slice A1 a.es.length n1)/\w'.cell? ⟨w.heap.size,1,none⟩=some (.slice A2 a.ks.length n2)/\w'.cell? ⟨w.heap.size+1,0,none⟩=some (.slice A3 b.es.length n3)/\w'.cell? ⟨w.heap.size+1,1,none⟩=some (.slice A4 b.ks.length n4))
      (first|go_keep|exact (HC8.out _ hbk3.out).1|exact (HC8.out _ (hbk3.out.alloc hbk3.out.size _)).1|exact (HC8.out _ hbk2.out).1|exact (HC8.out _ (hbk2.out.alloc hbk2.out.size _)).1|exact (HC8.out _ hbk1.out).1|exact (HC8.out _ (hbk1.out.alloc hbk1.out.size _)).1|exact (HC8.out _ ((hbk3.out.setCell hge.out _).setCell hge.out _)).1)
      (first
          |(have hq:=hbk2;go_at_call 111;go_loud ((refine (HIH.out _ _ _ _ _ _ _ (by first|exact HQA2.out|exact Qi (XK (Below.refl _ _)) (by simp) _ _ _ HQA2.out) (by first|exact HQB.out|exact Qi (XK (Below.refl _ _)) (by simp) _ _ _ HQB.out) (HCA.out _ (HC8.out _ (by first|exact hbk2.out|exact hbk2.out.alloc hbk2.out.size _)).2) (HCB.out _ (HC8.out _ (by first|exact hbk2.out|exact hbk2.out.alloc hbk2.out.size _)).2) (ZJ HOA.out key) (ZJ HOB.out key) HDA.out HDB.out HZA.out HZB.out).mono ?_);rw[←HFK.out];rintro e w7 ⟨ve7,vk7,rfl,hrd7,hb⟩;obtain⟨Av,nv,Aw,nw,rfl,rfl⟩:=Qj hrd7;have HR7:=hid hrd7;have hb':Below w6.heap.size w6 w7:=(by first|exact hb|exact XK hb);have hbk3:Hid (Below wr.heap.size wr w7):=hbk2.out.trans (hb'.mono (by have:=hbk2.out.size;simpa using this));(try (have hnN:=hid (lt_of_block hbox.out);have hbox:=hid ((hb.block _ hnN.out).trans hbox.out)));(try (have hbox:Hid (w7.heap[w6.heap.size]?=some (.cells #[.slice none 0 0,.slice none 0 0] 25 (0,0))):=(hb.block _ (by simp;done)).trans (Qd rfl);have hnN:Hid (w6.heap.size<(w6.alloc (.cells #[.slice none 0 0,.slice none 0 0] 25)).heap.size):=(by unfold Hid;simp);have hge:=hid hs6));(try (have z0:=Qb (i:=0) hbox.out;have z1:=Qb (i:=1) hbox.out;have y0:=Qa (i:=0) hbox.out;have y1:=Qa (i:=1) hbox.out));clear hrd7 hb hb'))
          |(have hq:=hbk1;go_at_call 156;go_loud ((refine (qYh b key _ _ _ (HRB.out _ (by first|exact hbk1.out|exact hbk1.out.alloc hbk1.out.size _)) HOB.out).mono ?_);rintro e w6 ⟨ve6,vk6,rfl,hrd6,hb⟩;have hb':Below w5.heap.size w5 w6:=(by first|exact hb|exact XK hb);have HQB:=hid (Qi hb hb.size _ _ _ hrd6);have HQA2:=hid (Qi hb' hb'.size _ _ _ HQA.out);have hbk2:Hid (Below wr.heap.size wr w6):=hbk1.out.trans (hb'.mono (by have:=hbk1.out.size;simpa using this));have hs6:=hbk2.out.size;(try (have hbox:=hid ((hb.block _ (lt_of_block hbox.out)).trans hbox.out)));(try (have hbox:Hid (w6.heap[w5.heap.size]?=some (.cells #[.slice none 0 0,.slice none 0 0] 25 (0,0))):=(hb.block _ (by simp;done)).trans (Qd rfl);have hge:=hid hs5));clear hrd6 hb hb'))
          |(go_at_call 156;go_loud ((refine (qYh a key _ _ _ (HRA.out _ (by go_grown)) HOA.out).mono ?_);rintro e w5 ⟨ve5,vk5,rfl,hrd5,hb⟩;have HQA:=hid (Qi hb hb.size _ _ _ hrd5);have hbk1:Hid (Below wr.heap.size wr w5):=(Below.trans (by go_grown) (hb.mono (by simp)));have hs5:=hbk1.out.size;(try (have hbox:Hid (w5.heap[wr.heap.size]?=some (.cells #[.slice none 0 0,.slice none 0 0] 25 (0,0))):=(hb.block _ (by simp;done)).trans (Qd (by simp));have hge:=hid (Nat.le_refl wr.heap.size)));clear hrd5 hb)))
     all_goals (
      first
       |have hFIN:=hid (zXr hbox.out hge.out hbk3.out HR7.out hnN.out)
       |have hFIN:=hid (zXs (e:=25) hbk3.out HR7.out (by have:=hbk2.out.size;simp;omega))
      have hge4:=hbk3.out.size
      obtain⟨q4,q5,_,_⟩:=hFIN.out _ (Below.refl _ _)
      go_wp2_with fail
      refine (QF _ _ _ _ _ _ _).mono ?_
      rintro e w8 ⟨rfl,hb8⟩
      obtain⟨q6,q7,hb9,hrd9⟩:=hFIN.out _ hb8
      have hs9:=hb9.size
      have hg8:=(hb9.block w1.heap.size (by omega)).trans hg
      have hkp8:∀ b,w1.heap.size<b->b<w4.heap.size->w8.heap[b]?=w4.heap[b]?:=fun b h1 h2=>(hb9.block b (by omega)).trans (hkp b h1 h2)
      have hown8:=hown.grow KdA.mon hb9
      clear q0 q1 q2 q3 q4 q5
      cases he:empB (F key).es.length (F key).ks.length
      ·have HX2:Hid ((KK.take (k+1)).flatMap (joinF F)=js++[(key,F key)]):=by
        unfold Hid;rw[HX.out];unfold joinF;rw[←Jf,he];rfl
       have c9:w8.cell? ⟨w1.heap.size,1,none⟩=some (.slice Ak js.length ck):=Qa (i:=1) hg8
       have hlt8:w1.heap.size<w8.heap.size:=by omega
       clear he
       go_wp2_with (at_builtin;go_loud ((with_reducible refine Zw (v:=.slice Ak js.length ck) rfl (.tmp 63) (.tmp 67) _ rfl KdA.mon eiKid (by decide) (by decide) rfl (hown8.grow KdA.mon ((Below.refl _ w8).alloc (Nat.le_refl _) (.cells #[.string key,.slice Av (F key).es.length nv,.slice Aw (F key).ks.length nw] 96))) rfl (qZp hrd9 HKB.out (fun b hb=>⟨hb.2,by have:=hb.1;omega,by rw[World.size_alloc];have:=hb.2;omega,fun e=>by have:=hszk b e;have:=hb.1;omega⟩) _ (by rw[World.size_alloc];omega)) HL.out (by rw[World.size_alloc];omega) ?_);intro v1 w9 hown9 hb10 _ _;have hsh9:∃ A c,v1=.slice A (js++[(key,F key)]).length c:=OwnP.shape hown9;obtain⟨A1',c1',hv1⟩:=hsh9;subst hv1;have hg9:=hid ((hb10.block _ hlt4).trans ((Qg hlt8).trans hg8));have hc9:w9.cell? ⟨w1.heap.size,1,none⟩=some (.slice Ak js.length ck):=Qa (i:=1) hg9.out;have hf9:=Qb (i:=1) hg9.out))
       have hb11:=((hb9.mono (show w4.heap.size<=_ from hsz)).alloc (show w4.heap.size<=w8.heap.size by omega) _).trans hb10
       have hs11:=hb11.size
       go_roundw
       case rel=>
        refine⟨k+1,by omega,by go_num,A1',c1',?_,?_,?_,?_,?_⟩
        ·rw[HX2.out];simpa using Qe (i:=1) hg9.out (.slice A1' (js.length+1) c1')
        ·rw[HX2.out];exact OwnD.setOther hown9 KdA.mon hlt4 (by simp;omega) _
        ·simp[World.setCell];omega
        ·exact (hb.trans (hb11.mono (by omega))).setCell (by simp) _
        ·intro b h1 h2
         exact (Below.heap_setCell _ _ _ _ (by simp;omega)).trans ((hb11.block b h2).trans (hkp b h1 h2))
       case measure=>simp[intOf];omega
      ·have HX2:Hid ((KK.take (k+1)).flatMap (joinF F)=js):=by
        unfold Hid;rw[HX.out];unfold joinF;rw[←Jf,he];simp
       clear he
       go_wp2_with fail
       go_roundw
       case rel=>exact⟨k+1,by omega,by go_num,Ak,ck,by rw[HX2.out];exact hg8,by rw[HX2.out];exact hown8,by omega,hb.trans (hb9.mono (by omega)),hkp8⟩
       case measure=>simp[intOf];omega)
    ·obtain rfl:k=KK.length:=by omega
     rw[List.take_of_length_le (Nat.le_refl _)]at hg hown hszk
     have hJe:joinT (n+1) ca cb a b=.mk E (KK.flatMap (joinF F)):=by
      rw[HJ.out,←HKKe.out]
     have hjl:=Jg F KK
     generalize KK.flatMap (joinF F)=JS at *
     have c0:wr.cell? ⟨w1.heap.size,0,none⟩=some (.slice Ae E.length ce):=Qa (i:=0) hg
     have c1:wr.cell? ⟨w1.heap.size,1,none⟩=some (.slice Ak JS.length ck):=Qa (i:=1) hg
     have hg2:=(HW.out wr (hb1'.out.trans (hb.mono (by omega)))).2.2.2.2
     have d0:wr.cell? ⟨w.heap.size+2,0,none⟩=some (.slice none 0 0):=Qa (i:=0) hg2
     have d1:wr.cell? ⟨w.heap.size+2,1,none⟩=some (.slice none 0 0):=Qa (i:=1) hg2
     have z0:=Qb (i:=0) hg2
     have z1:=Qb (i:=1) hg2
     go_wp2_with fail
     have hW0:=Qe (i:=1) (Qe (i:=0) hg2 (.slice Ae E.length ce)) (.slice Ak JS.length ck)
     have hKW:∀ b,w.heap.size+3<=b->((wr.setCell ⟨w.heap.size+2,0,none⟩ (.slice Ae E.length ce)).setCell ⟨w.heap.size+2,1,none⟩ (.slice Ak JS.length ck)).heap[b]?=wr.heap[b]?:=fun b hb=>(Below.heap_setCell _ _ _ _ (by simp;omega)).trans (Below.heap_setCell _ _ _ _ (by simp;omega))
     have hSW:((wr.setCell ⟨w.heap.size+2,0,none⟩ (.slice Ae E.length ce)).setCell ⟨w.heap.size+2,1,none⟩ (.slice Ak JS.length ck)).heap.size=wr.heap.size:=by simp[World.setCell]
     have hBW:Below w.heap.size w ((wr.setCell ⟨w.heap.size+2,0,none⟩ (.slice Ae E.length ce)).setCell ⟨w.heap.size+2,1,none⟩ (.slice Ak JS.length ck)):=(hB0.setCell (by simp) _).setCell (by simp) _
     clear c0 c1 d0 d1 z0 z1
     generalize ((wr.setCell ⟨w.heap.size+2,0,none⟩ (.slice Ae E.length ce)).setCell ⟨w.heap.size+2,1,none⟩ (.slice Ak JS.length ck))=W at *
     have r0:W.cell? ⟨w.heap.size+2,0,none⟩=some (.slice Ae E.length ce):=(Qa (i:=0) hW0).trans (by simp)
     have r1:W.cell? ⟨w.heap.size+2,1,none⟩=some (.slice Ak JS.length ck):=(Qa (i:=1) hW0).trans (by simp)
     refine bodyPost_ret (v:=.agg #[.slice Ae E.length ce,.slice Ak JS.length ck]) (by simp[results,Tryz.results111,go_sem,r0,r1]) rfl ⟨_,_,rfl,?_,hBW⟩
     rw[hJe,ZC]
     refine⟨(HO1.out.sla (by unfold Big;omega)).up (fun b hb'=>(hKW b (by have:=hb'.1;simp only[World.size_alloc]at this;omega)).trans (hb.block b hb'.2.1)) (fun b hb'=>⟨by have:=hb'.1;simp only[World.size_alloc]at this;omega,by have:=hb'.2.1;omega⟩) (fun _ _ _ h=>h),(OwnP.sla hown (by unfold Big;omega)).up (fun b hb'=>hKW b (by have:=hb'.1;omega)) (fun b hb'=>⟨by have:=hb'.1;omega,by have:=hb'.2.1;omega⟩) ?_⟩
     intro x _ cs hx
     exact KdA.mon.up (fun b hb'=>hKW b (by have:=hb'.1;omega)) (fun b hb'=>⟨by have:=hb'.1;omega,by have:=hb'.2.1;omega⟩) hx
theorem Ji (a:Dt):a.lt a=false:=by unfold Dt.lt;simp
theorem qYm {a b c:Dt}(h:a.lt b=true)(k:b.lt c=true):a.lt c=true:=by
 unfold Dt.lt at *;split at h<;>split at k<;>split<;>simp at *<;>omega
theorem Jv {a b:Dt}(h:a.lt b=true):a≠b:=fun e=>by rw[e,Ji]at h;cases h
theorem Z8 {x y:En}(h:x.dot=y.dot):(grtE x y).dot=x.dot:=by unfold grtE;split<;>simp[h]
theorem Zy {c:List Sp}{x e:En}:e∈stayL c x↔e=x/\cHas c x.dot=false:=by
 unfold stayL;cases cHas c x.dot<;>simp
def EntJ (ca cb:List Sp)(a b:En->Prop)(e:En):Prop:=
 (∃ x y,a x/\b y/\x.dot=y.dot/\e=grtE x y)∨(a e/\(∀ y,b y->y.dot≠e.dot)/\cHas cb e.dot=false)∨(b e/\(∀ x,a x->x.dot≠e.dot)/\cHas ca e.dot=false)
theorem Zf (ca cb:List Sp):∀ (n:Nat) (a b:List En),a.length+b.length<=n->(a.Pairwise fun x y=>x.dot.lt y.dot=true)->(b.Pairwise fun x y=>x.dot.lt y.dot=true)->∀ e,e∈entL ca cb a b↔EntJ ca cb (·∈a) (·∈b) e
 |n,[],[],_,_,_,e=>by rw[entL];simp[EntJ]
 |0,x :: a,_,h,_,_,_=>by simp at h
 |0,[],y :: b,h,_,_,_=>by simp at h
 |n+1,x :: a,[],h,ha,hb,e=>by
  have h2:=Zf ca cb n a [] (by simp at h ⊢;omega) ha.of_cons hb e
  rw[entL,List.mem_append,Zy,h2]
  unfold EntJ
  simp only[List.not_mem_nil,List.mem_cons]
  grind
 |n+1,[],y :: b,h,ha,hb,e=>by
  have h2:=Zf ca cb n [] b (by simp at h ⊢;omega) ha hb.of_cons e
  rw[entL,List.mem_append,Zy,h2]
  unfold EntJ
  simp only[List.not_mem_nil,List.mem_cons]
  grind
 |n+1,x :: a,y :: b,h,ha,hb,e=>by
  have hxa:=(List.pairwise_cons.1 ha).1
  have hyb:=(List.pairwise_cons.1 hb).1
  rw[entL]
  cases h1:x.dot.lt y.dot
  ·cases h2:y.dot.lt x.dot
   ·have hxy:=Xu h1 h2
    have h3:=Zf ca cb n a b (by simp at h ⊢;omega) ha.of_cons hb.of_cons e
    have n1:∀ z∈a,z.dot≠x.dot:=fun z hz=>(Jv (hxa z hz)).symm
    have n2:∀ z∈b,z.dot≠y.dot:=fun z hz=>(Jv (hyb z hz)).symm
    have hg:=Z8 hxy
    rw[if_neg (by simp),if_neg (by simp),List.mem_cons,h3]
    unfold EntJ
    simp only[List.mem_cons]
    grind
   ·have h3:=Zf ca cb n (x :: a) b (by simp at h ⊢;omega) ha hb.of_cons e
    have n1:∀ z∈a,z.dot≠y.dot:=fun z hz=>(Jv (qYm h2 (hxa z hz))).symm
    have n2:∀ z∈b,z.dot≠y.dot:=fun z hz=>(Jv (hyb z hz)).symm
    have n3:x.dot≠y.dot:=(Jv h2).symm
    rw[if_neg (by simp),if_pos rfl,List.mem_append,Zy,h3]
    unfold EntJ
    simp only[List.mem_cons]
    grind
  ·have h3:=Zf ca cb n a (y :: b) (by simp at h ⊢;omega) ha.of_cons hb e
   have n1:∀ z∈a,z.dot≠x.dot:=fun z hz=>(Jv (hxa z hz)).symm
   have n2:∀ z∈b,z.dot≠x.dot:=fun z hz=>(Jv (qYm h1 (hyb z hz))).symm
   have n3:x.dot≠y.dot:=Jv h1
   rw[if_pos rfl,List.mem_append,Zy,h3]
   unfold EntJ
   simp only[List.mem_cons]
   grind
theorem EntJ.dot {ca cb:List Sp}{a b:En->Prop}{e:En}(h:EntJ ca cb a b e):∃ z,(a z∨b z)/\z.dot=e.dot:=by
 rcases h with⟨x,y,hx,hy,hd,rfl⟩|⟨hx,_,_⟩|⟨hx,_,_⟩
 ·exact⟨x,.inl hx,(Z8 hd).symm⟩
 ·exact⟨e,.inl hx,rfl⟩
 ·exact⟨e,.inr hx,rfl⟩
theorem EntJ.congr {ca cb:List Sp}{a b a' b':En->Prop}(ha:∀ e,a e↔a' e)(hb:∀ e,b e↔b' e)(e:En):EntJ ca cb a b e↔EntJ ca cb a' b' e:=by
 have h1:a=a':=funext fun e=>propext (ha e)
 have h2:b=b':=funext fun e=>propext (hb e)
 rw[h1,h2]
theorem Y0 (ca cb:List Sp):∀ (n:Nat) (a b:List En),a.length+b.length<=n->(a.Pairwise fun x y=>x.dot.lt y.dot=true)->(b.Pairwise fun x y=>x.dot.lt y.dot=true)->(entL ca cb a b).Pairwise fun x y=>x.dot.lt y.dot=true
 |n,[],[],_,_,_=>by rw[entL];exact .nil
 |0,x :: a,_,h,_,_=>by simp at h
 |0,[],y :: b,h,_,_=>by simp at h
 |n+1,x :: a,[],h,ha,hb=>by
  have h2:=Y0 ca cb n a [] (by simp at h ⊢;omega) ha.of_cons hb
  have hm:=Zf ca cb _ a [] (Nat.le_refl _) ha.of_cons hb
  have hxa:=(List.pairwise_cons.1 ha).1
  rw[entL,List.pairwise_append]
  refine⟨by unfold stayL;split<;>simp,h2,fun u hu v hv=>?_⟩
  obtain⟨z,hz,hd⟩:=((hm v).1 hv).dot
  rw[(Zy.1 hu).1,←hd]
  simp at hz
  exact hxa z hz
 |n+1,[],y :: b,h,ha,hb=>by
  have h2:=Y0 ca cb n [] b (by simp at h ⊢;omega) ha hb.of_cons
  have hm:=Zf ca cb _ [] b (Nat.le_refl _) ha hb.of_cons
  have hxa:=(List.pairwise_cons.1 hb).1
  rw[entL,List.pairwise_append]
  refine⟨by unfold stayL;split<;>simp,h2,fun u hu v hv=>?_⟩
  obtain⟨z,hz,hd⟩:=((hm v).1 hv).dot
  rw[(Zy.1 hu).1,←hd]
  simp at hz
  exact hxa z hz
 |n+1,x :: a,y :: b,h,ha,hb=>by
  have hxa:=(List.pairwise_cons.1 ha).1
  have hyb:=(List.pairwise_cons.1 hb).1
  rw[entL]
  cases h1:x.dot.lt y.dot
  ·cases h2:y.dot.lt x.dot
   ·have hxy:=Xu h1 h2
    have h3:=Y0 ca cb n a b (by simp at h ⊢;omega) ha.of_cons hb.of_cons
    have hm:=Zf ca cb _ a b (Nat.le_refl _) ha.of_cons hb.of_cons
    rw[if_neg (by simp),if_neg (by simp),List.pairwise_cons]
    refine⟨fun v hv=>?_,h3⟩
    obtain⟨z,hz,hd⟩:=((hm v).1 hv).dot
    rw[Z8 hxy,←hd]
    rcases hz with hz|hz
    ·exact hxa z hz
    ·rw[hxy];exact hyb z hz
   ·have h3:=Y0 ca cb n (x :: a) b (by simp at h ⊢;omega) ha hb.of_cons
    have hm:=Zf ca cb _ (x :: a) b (Nat.le_refl _) ha hb.of_cons
    rw[if_neg (by simp),if_pos rfl,List.pairwise_append]
    refine⟨by unfold stayL;split<;>simp,h3,fun u hu v hv=>?_⟩
    obtain⟨z,hz,hd⟩:=((hm v).1 hv).dot
    rw[(Zy.1 hu).1,←hd]
    rcases hz with hz|hz
    ·rcases List.mem_cons.1 hz with rfl|hz
     ·exact h2
     ·exact qYm h2 (hxa z hz)
    ·exact hyb z hz
  ·have h3:=Y0 ca cb n a (y :: b) (by simp at h ⊢;omega) ha.of_cons hb
   have hm:=Zf ca cb _ a (y :: b) (Nat.le_refl _) ha.of_cons hb
   rw[if_pos rfl,List.pairwise_append]
   refine⟨by unfold stayL;split<;>simp,h3,fun u hu v hv=>?_⟩
   obtain⟨z,hz,hd⟩:=((hm v).1 hv).dot
   rw[(Zy.1 hu).1,←hd]
   rcases hz with hz|hz
   ·exact hxa z hz
   ·rcases List.mem_cons.1 hz with rfl|hz
    ·exact h1
    ·exact qYm h1 (hyb z hz)
theorem XL {f:ByteArray->Tr}{l:List ByteArray}{k:ByteArray}{t:Tr}:(k,t)∈l.flatMap (joinF f)↔k∈l/\(f k).empty=false/\t=f k:=by
 rw[List.mem_flatMap]
 constructor
 ·rintro⟨q,hq,h⟩
  unfold joinF at h
  split at h
  ·cases h
  ·rename_i hn
   simp at h
   obtain⟨rfl,rfl⟩:=h
   exact⟨hq,by simpa using hn,rfl⟩
 ·rintro⟨hk,he,rfl⟩
  exact⟨k,hk,by unfold joinF;rw[he];simp⟩
theorem Vb {f:ByteArray->Tr}:∀ {l:List ByteArray},(l.Pairwise fun a b=>ltS a b=true)->(l.flatMap (joinF f)).Pairwise fun a b=>ltS a.1 b.1=true
 |[],_=>.nil
 |k :: l,h=>by
  obtain⟨h1,h2⟩:=List.pairwise_cons.1 h
  rw[List.flatMap_cons,List.pairwise_append]
  refine⟨by unfold joinF;split<;>simp,Vb h2,fun u hu v hv=>?_⟩
  have hu1:u.1=k:=by unfold joinF at hu;split at hu<;>simp at hu;rw[hu]
  rw[hu1]
  obtain⟨v1,v2⟩:=v
  exact h1 v1 (XL.1 hv).1
theorem Vc (a b:Tr):((joinK a b).Pairwise fun x y=>ltS x y=true)/\∀ k,k∈joinK a b↔∃ t,(k,t)∈a.ks∨(k,t)∈b.ks:=by
 unfold joinK
 rw[sd_eq]
 obtain⟨h1,h2⟩:=Yx ((a.ks++b.ks).map (·.1))
 refine⟨h1,fun k=>(h2 k).trans ?_⟩
 rw[List.mem_map]
 constructor
 ·rintro⟨⟨q,t⟩,hm,rfl⟩;exact⟨t,List.mem_append.1 hm⟩
 ·rintro⟨t,hm⟩;exact⟨(k,t),List.mem_append.2 hm,rfl⟩
theorem qV0 {t:Tr}{k:ByteArray}{qs:List ByteArray}{e:En}(h:((k :: qs,e):Lf)∈t.lvs []):∃ u,(k,u)∈t.ks:=by
 obtain⟨es,ks⟩:=t
 obtain⟨u,hu,_⟩:=Qt.1 h
 exact⟨u,hu⟩
theorem zQt {t:Tr}{x:Lf}(h:x∈t.lvs []):t.empty=false:=by
 obtain⟨es,ks⟩:=t
 cases he:(Tr.mk es ks).empty
 ·rfl
 ·simp[Tr.empty]at he
  obtain⟨rfl,rfl⟩:=he
  simp[Tr.lvs,Tr.lvsL]at h
theorem ZE {t:Tr}{e:En}:(([],e):Lf)∈t.lvs []↔e∈t.es:=by obtain⟨es,ks⟩:=t;exact Zp
theorem Jj (ca cb:List Sp):∀ (n:Nat) (a b:Tr),a.Ord->b.Ord->a.dep<=n->b.dep<=n->(joinT n ca cb a b).Ord/\∀ p e,((p,e):Lf)∈(joinT n ca cb a b).lvs []↔EntJ ca cb (fun x=>((p,x):Lf)∈a.lvs []) (fun y=>((p,y):Lf)∈b.lvs []) e:=by
 intro n
 induction n with
 |zero=>intro a b _ _ h _;have:=J8 a;omega
 |succ n ih=>
 intro a b ha hb hda hdb
 have hih:∀ k∈joinK a b,_:=fun k hk=>ih (kidT a k) (kidT b k) (ZJ ha k) (ZJ hb k) (YZ ha hda (YK hda hdb hk) k) (YZ hb hdb (YK hda hdb hk) k)
 obtain⟨hk1,hk2⟩:=Vc a b
 have hsa:a.es.Pairwise fun x y=>x.dot.lt y.dot=true:=by obtain⟨es,ks⟩:=a;exact (QO.1 ha).1
 have hsb:b.es.Pairwise fun x y=>x.dot.lt y.dot=true:=by obtain⟨es,ks⟩:=b;exact (QO.1 hb).1
 rw[joinT]
 refine⟨Ord.mk' (Y0 ca cb _ _ _ (Nat.le_refl _) hsa hsb) (Vb hk1) fun k t hm=>?_,?_⟩
 ·obtain⟨hk,he,rfl⟩:=XL.1 hm
  refine⟨?_,he,(hih k hk).1⟩
  obtain⟨u,h|h⟩:=(hk2 k).1 hk
  ·obtain⟨es,ks⟩:=a;exact ((QO.1 ha).2.2 k u h).1
  ·obtain⟨es,ks⟩:=b;exact ((QO.1 hb).2.2 k u h).1
 ·intro p e
  match p with
  |[]=>
   rw[Zp,Zf ca cb _ _ _ (Nat.le_refl _) hsa hsb]
   exact EntJ.congr (fun x=>ZE.symm) (fun x=>ZE.symm) e
  |k :: qs=>
   rw[Qt]
   have hc:EntJ ca cb (fun x=>((k :: qs,x):Lf)∈a.lvs []) (fun y=>((k :: qs,y):Lf)∈b.lvs []) e↔EntJ ca cb (fun x=>((qs,x):Lf)∈(kidT a k).lvs []) (fun y=>((qs,y):Lf)∈(kidT b k).lvs []) e:=EntJ.congr (fun x=>(Xy ha).symm) (fun x=>(Xy hb).symm) e
   constructor
   ·rintro⟨t,hm,hx⟩
    obtain⟨hk,he,rfl⟩:=XL.1 hm
    exact hc.2 (((hih k hk).2 qs e).1 hx)
   ·intro hx
    have hk:k∈joinK a b:=by
     obtain⟨z,hz,_⟩:=hx.dot
     rcases hz with hz|hz
     ·obtain⟨u,hu⟩:=qV0 hz;exact (hk2 k).2 ⟨u,.inl hu⟩
     ·obtain⟨u,hu⟩:=qV0 hz;exact (hk2 k).2 ⟨u,.inr hu⟩
    have hy:=((hih k hk).2 qs e).2 (hc.1 hx)
    exact⟨_,XL.2 ⟨hk,zQt hy,rfl⟩,hy⟩
def YA (a b:Lf):Bool:=decide (a.2.dot=b.2.dot)&&decide (a.1=b.1)
def findL (l:List Lf)(x:Lf):Option Lf:=l.find? fun y=>YA y x
def gtE (y x:En):Bool:=decide (x.v<y.v)||(decide (y.v=x.v)&&ltS x.s y.s)
def outP (q:List Lf)(cb:List Sp)(x:Lf):List Lf:=match findL q x with|some y=>if gtE y.2 x.2 then [y] else [x]|none=>if hasC cb x.2.dot then [] else [x]
def outQ (p:List Lf)(ca:List Sp)(y:Lf):List Lf:=match findL p y with|some _=>[]|none=>if hasC ca y.2.dot then [] else [y]
def r9L (p q:List Lf)(ca cb:List Sp):List Lf:=p.flatMap (outP q cb)++q.flatMap (outQ p ca)
theorem Zu (x y:En):grtE x y=if gtE y x then y else x:=by
 unfold grtE gtE
 rcases Int.lt_trichotomy x.v y.v with h|h|h
 ·have e1:cmpI x.v y.v=-1:=if_pos h
  rw[e1];simp[orI,h]
 ·have e1:cmpI x.v y.v=0:=by unfold cmpI;rw[if_neg (by omega),if_neg (by omega)]
  rw[e1]
  unfold orI cmpS
  cases h1:ltS x.s y.s
  ·cases h2:ltS y.s x.s<;>simp[h]
  ·simp[h]
 ·have e1:cmpI x.v y.v=1:=by unfold cmpI;rw[if_neg (by omega),if_pos h]
  rw[e1]
  have h1:¬x.v<y.v:=by omega
  have h3:¬y.v=x.v:=by omega
  simp[orI,h1,h3]
theorem XM {c:List Sp}(h:Qm c=true)(d:Dt):cHas c d=hasC c d:=by
 unfold cHas hasC sHas
 rw[h,Bool.true_and]
 cases hd:d.right
 ·rfl
 ·have hdc:0<=d.dc/\d.dc<4:=by unfold Dt.right at hd;simp at hd;omega
  obtain⟨i,hi⟩:∃ i:Nat,(i:Int)=d.dc:=⟨d.dc.toNat,by omega⟩
  have:=Qx h (i:=i) (by omega)
  rw[hi]at this
  rw[this];rfl
theorem Y1 {l:List Lf}{x y:Lf}(h:findL l x=some y):y∈l/\y.2.dot=x.2.dot/\y.1=x.1:=by
 have h1:=List.mem_of_find?_eq_some h
 have h2:=List.find?_some h
 unfold YA at h2
 simp at h2
 exact⟨h1,h2⟩
theorem Jk {l:List Lf}{x:Lf}(h:findL l x=none):∀ y∈l,y.1=x.1->y.2.dot≠x.2.dot:=by
 intro y hy h1 h2
 have:=List.find?_eq_none.1 h y hy
 unfold YA at this
 simp[h1,h2]at this
theorem zXt {a b:Tr}(ha:a.Ord)(hb:b.Ord){ca cb:List Sp}(hca:Qm ca=true)(hcb:Qm cb=true)(p:List ByteArray)(e:En) :
  ((p,e):Lf)∈r9L (a.lvs []) (b.lvs []) ca cb↔EntJ ca cb (fun x=>((p,x):Lf)∈a.lvs []) (fun y=>((p,y):Lf)∈b.lvs []) e:=by
 have h1:=(Xx a ha).one
 have h2:=(Xx b hb).one
 unfold r9L EntJ
 rw[List.mem_append,List.mem_flatMap,List.mem_flatMap,XM hca,XM hcb]
 constructor
 ·rintro (⟨⟨p',x⟩,hx,h⟩|⟨⟨p',y⟩,hy,h⟩)
  ·unfold outP at h
   cases hf:findL (b.lvs []) (p',x) with
   |none=>
    have hn:=Jk hf
    rw[hf]at h
    simp only at h
    split at h
    ·cases h
    ·rename_i hh
     simp at h
     obtain⟨rfl,rfl⟩:=h
     exact .inr (.inl ⟨hx,fun y hy=>hn (p,y) hy rfl,by simpa using hh⟩)
   |some y=>
    obtain⟨q,y⟩:=y
    obtain⟨hy,hd,hp⟩:=Y1 hf
    simp only at hd hp
    subst hp
    rw[hf]at h
    simp only at h
    refine .inl ⟨x,y,?_,?_,hd.symm,?_⟩
    ·split at h<;>simp at h<;>obtain⟨rfl,rfl⟩:=h<;>exact hx
    ·split at h<;>simp at h<;>obtain⟨rfl,rfl⟩:=h<;>exact hy
    ·rw[Zu];split at h<;>simp at h<;>simp[*]
  ·unfold outQ at h
   cases hf:findL (a.lvs []) (p',y) with
   |some x=>rw[hf]at h;cases h
   |none=>
    have hn:=Jk hf
    rw[hf]at h
    simp only at h
    split at h
    ·cases h
    ·rename_i hh
     simp at h
     obtain⟨rfl,rfl⟩:=h
     exact .inr (.inr ⟨hy,fun x hx=>hn (p,x) hx rfl,by simpa using hh⟩)
 ·rintro (⟨x,y,hx,hy,hd,rfl⟩|⟨hx,hn,hh⟩|⟨hy,hn,hh⟩)
  ·refine .inl ⟨(p,x),hx,?_⟩
   unfold outP
   cases hf:findL (b.lvs []) (p,x) with
   |none=>exact absurd hd.symm (Jk hf (p,y) hy rfl)
   |some z=>
    obtain⟨hz,hd',hp⟩:=Y1 hf
    have:=h2 z hz (p,y) hy hp (hd'.trans hd)
    subst this
    simp only
    rw[Zu]
    cases gtE y x<;>simp
  ·refine .inl ⟨(p,e),hx,?_⟩
   unfold outP
   cases hf:findL (b.lvs []) (p,e) with
   |none=>simp[hh]
   |some z=>
    obtain⟨q,z⟩:=z
    obtain⟨hz,hd',hp⟩:=Y1 hf
    simp only at hp hd'
    subst hp
    exact absurd hd' (hn z hz)
  ·refine .inr ⟨(p,e),hy,?_⟩
   unfold outQ
   cases hf:findL (a.lvs []) (p,e) with
   |none=>simp[hh]
   |some z=>
    obtain⟨q,z⟩:=z
    obtain⟨hz,hd',hp⟩:=Y1 hf
    simp only at hp hd'
    subst hp
    exact absurd hd' (hn z hz)
theorem qV1 {a b:Tr}(ha:a.Ord)(hb:b.Ord){ca cb:List Sp}(hca:Qm ca=true)(hcb:Qm cb=true){n:Nat}(hda:a.dep<=n)(hdb:b.dep<=n) :
  Qz (r9L (a.lvs []) (b.lvs []) ca cb)=joinT n ca cb a b:=by
 obtain⟨h1,h2⟩:=Jj ca cb n a b ha hb hda hdb
 have he:∀ x,x∈r9L (a.lvs []) (b.lvs []) ca cb↔x∈(joinT n ca cb a b).lvs []:=fun ⟨p,e⟩=>(zXt ha hb hca hcb p e).trans (h2 p e).symm
 have h3:=Xx _ h1
 exact Vz h1 ⟨fun x hx=>h3.key x ((he x).1 hx),fun x hx y hy=>h3.one x ((he x).1 hx) y ((he y).1 hy)⟩ he
theorem qYn (q:List Lf)(cb:List Sp)(x:Lf):(outP q cb x).length<=1:=by
 unfold outP;split<;>split<;>simp
theorem qYo (q:List Lf)(cb:List Sp)(x:Lf):(outQ q cb x).length<=1:=by
 unfold outQ;split<;>(try split)<;>simp
def cutL:List (Int×Int)->Int->Int->List (Int×Int)
 |[],lo,hi=>if lo<=hi then [(lo,hi)] else []
 |x :: b,lo,hi=>if x.2<lo∨hi<x.1 then cutL b lo hi else if lo<x.1 then (lo,x.1-1) :: cutL b (x.2+1) hi else cutL b (x.2+1) hi
def QX (a b:List (Int×Int)):List (Int×Int):=a.flatMap fun r=>cutL b r.1 r.2
theorem qZ3 {a b:List (Int×Int)}{k:Nat}{r:Int×Int}(h:a[k]?=some r):QX (a.take (k+1)) b=QX (a.take k) b++cutL b r.1 r.2:=by
 unfold QX;rw[List.take_add_one,h];simp
theorem qV2 {b:List (Int×Int)}{k:Nat}{x:Int×Int}(h:b[k]?=some x)(lo hi:Int):cutL (b.drop k) lo hi=(if x.2<lo∨hi<x.1 then cutL (b.drop (k+1)) lo hi else if lo<x.1 then (lo,x.1-1) :: cutL (b.drop (k+1)) (x.2+1) hi else cutL (b.drop (k+1)) (x.2+1) hi):=by
 have hlt:=(List.getElem?_eq_some_iff.1 h).1
 rw[List.drop_eq_getElem_cons hlt,(List.getElem?_eq_some_iff.1 h).2,cutL]
theorem Zz (x:Int×Int)(l:List (Int×Int))(n:Int):hasL (x :: l) n=(inR x n||hasL l n):=rfl
theorem JB:∀ (l:List (Int×Int)) (q n:Int),runsR (some q) l=true->hasL l n=true->q+1<n
 |x :: l,q,n,h,hn=>by
  rw[Qq]at h
  obtain⟨h1,h2,h3⟩:=h
  unfold runOk at h1
  simp only[okR,decide_eq_true_eq]at h2
  rw[Zz,Bool.or_eq_true]at hn
  rcases hn with hn|hn
  ·simp[inR]at hn;omega
  ·have:=JB l x.2 n h3 hn;omega
 |[],q,n,_,hn=>by simp[hasL]at hn
theorem qZ4 {l:List (Int×Int)}{q:Int}(h:runsR (some q) l=true):∀ p:Option Int,(∀ q',p=some q'->q'<=q)->runsR p l=true:=by
 intro p hp
 cases l with
 |nil=>cases p<;>rfl
 |cons x l=>
  rw[Qq]at h ⊢
  refine⟨h.1,?_,h.2.2⟩
  cases p with
  |none=>rfl
  |some q'=>
   have:=hp q' rfl
   have h2:=h.2.1
   simp only[okR,decide_eq_true_eq]at h2 ⊢
   omega
theorem JD:∀ (b:List (Int×Int)) (p0 p:Option Int) (lo hi:Int) (rest:List (Int×Int)),runsR p0 b=true->okR p lo=true->1<=lo->hi<=1099511627776->(∀ q,p=some q->q<=hi)->runsR (some hi) rest=true->runsR p (cutL b lo hi++rest)=true
 |[],p0,p,lo,hi,rest,_,hp,h1,h2,hq,hr=>by
  rw[cutL]
  split
  ·rename_i hle
   rw[List.singleton_append,Qq]
   exact⟨⟨h1,hle,h2⟩,hp,hr⟩
  ·exact qZ4 hr p hq
 |x :: b,p0,p,lo,hi,rest,h,hp,h1,h2,hq,hr=>by
  rw[Qq]at h
  obtain⟨hx,_,hb⟩:=h
  unfold runOk at hx
  rw[cutL]
  split
  ·exact JD b _ p lo hi rest hb hp h1 h2 hq hr
  ·rename_i hc
   split
   ·rename_i hl
    rw[List.cons_append,Qq]
    exact⟨⟨h1,by show lo<=x.1-1;omega,by show x.1-1<=_;omega⟩,hp,JD b _ _ (x.2+1) hi rest hb (by simp only[okR,decide_eq_true_eq];omega) (by omega) h2 (fun q e=>by cases e;omega) hr⟩
   ·refine JD b _ p (x.2+1) hi rest hb ?_ (by omega) h2 hq hr
    cases p with
    |none=>rfl
    |some q=>simp only[okR,decide_eq_true_eq]at hp ⊢;omega
theorem Vd (b:List (Int×Int))(hb:runsR none b=true):∀ (a:List (Int×Int)) (p:Option Int),runsR p a=true->runsR p (QX a b)=true
 |[],p,_=>by cases p<;>rfl
 |r :: a,p,h=>by
  rw[Qq]at h
  obtain⟨h1,h2,h3⟩:=h
  unfold runOk at h1
  show runsR p (cutL b r.1 r.2++QX a b)=true
  refine JD b none p r.1 r.2 _ hb h2 h1.1 h1.2.2 (fun q e=>?_) (Vd b hb a _ h3)
  subst e
  simp only[okR,decide_eq_true_eq]at h2
  omega
theorem qZ5:∀ (b:List (Int×Int)) (p:Option Int) (lo hi n:Int),runsR p b=true->hasL (cutL b lo hi) n=(decide (lo<=n)&&decide (n<=hi)&&!hasL b n)
 |[],p,lo,hi,n,_=>by
  rw[cutL]
  split
  ·simp[hasL,inR]
  ·rw[Bool.eq_iff_iff];simp[hasL];omega
 |x :: b,p,lo,hi,n,h=>by
  rw[Qq]at h
  obtain⟨hx,_,hb⟩:=h
  unfold runOk at hx
  have hgt:=JB b x.2 n hb
  have e1:=qZ5 b _ lo hi n hb
  have e2:=qZ5 b _ (x.2+1) hi n hb
  rw[cutL,Zz]
  have hin:inR x n=(decide (x.1<=n)&&decide (n<=x.2)):=rfl
  split
  ·rw[e1,hin]
   cases hbn:hasL b n<;>rw[Bool.eq_iff_iff]<;>simp<;>omega
  ·split
   ·rw[Zz,e2,Bool.eq_iff_iff]
    simp[inR]
    cases hbn:hasL b n<;>simp[hbn]at hgt ⊢<;>omega
   ·rw[e2,hin]
    cases hbn:hasL b n<;>simp[hbn]at hgt<;>rw[Bool.eq_iff_iff]<;>simp<;>omega
theorem qQu (a b:List (Int×Int))(n:Int):hasL (a++b) n=(hasL a n||hasL b n):=by unfold hasL;rw[List.any_append]
theorem qQv (b:List (Int×Int))(hb:runsR none b=true)(n:Int):∀ (a:List (Int×Int)),hasL (QX a b) n=(hasL a n&&!hasL b n)
 |[]=>by simp[QX,hasL]
 |r :: a=>by
  show hasL (cutL b r.1 r.2++QX a b) n=_
  rw[qQu,qZ5 b none _ _ n hb,qQv b hb n a,Zz,Bool.and_or_distrib_right];rfl
theorem qYp {a b:List (Int×Int)}(ha:runsR none a=true)(hb:runsR none b=true):QX a b=byL a b 2:=by
 have h:=Yl (a:=a) (b:=b) 2 (Ze a none ha) (Ze b none hb)
 refine YH _ _ none none (Vd b hb a none ha) h.1 fun n=>?_
 rw[qQv b hb n a,h.2 n]
 simp[inn]
theorem qV3 (a b:List (Int×Int))(k:Nat):(QX (a.take k) b).length<=(QX a b).length:=by
 have h:QX a b=QX (a.take k) b++QX (a.drop k) b:=by unfold QX;rw[←List.flatMap_append,List.take_append_drop]
 rw[h];simp
theorem qKb (a b:List (Int×Int))(va vb:Value)(w:World)(ha:SlP w w.heap.size 2 RuE va a)(hb:SlP w w.heap.size 2 RuE vb b)(hra:runsR none a=true)(hrb:runsR none b=true)(hN:(QX a b).length<=900000) :
  Calls Tryz.prog 159 #[va,vb] w (RetO w 167 2 (fun _=>RuE) (QX a b)):=by
 have HA:=hid ha
 have HB:=hid hb
 have HRA:=hid hra
 have HRB:=hid hrb
 obtain⟨A1,c1,rfl,a1,a2,a3⟩:=ha
 obtain⟨A2,c2,rfl,b1,b2,b3⟩:=hb
 unfold Big at a2 b2
 clear hra hrb
 go_enter Tryz.func159,Tryz.ntmps159
 go_wp2_with fail
 refine (J3 a b _ _ w HA.out HB.out).mono ?_
 rw[HRA.out,HRB.out]
 rintro e w1 ⟨rfl,hb1⟩
 have hs1:=hb1.size
 go_wp2_with fail
 go_loopw [5,16] (fun v i wr=>∃ k:Nat,k<=a.length/\i=.int .i64 k/\OwnP wr w1.heap.size 167 2 RuE v (QX (a.take k) b)/\Below w1.heap.size w1 wr) (fun _ i _=>a.length-(intOf i).toNat)
 case atStart=>exact⟨0,Nat.zero_le _,rfl,OwnP.nil,Below.refl _ _⟩
 case round=>
  obtain⟨k,hk,rfl,hown,hbr⟩:=hrel
  have hsz:=hbr.size
  have hB0:Below w.heap.size w wr:=hb1.trans (hbr.mono hs1)
  by_cases hlt:k<a.length
  ·obtain⟨r,hr⟩:∃ x,a[k]?=some x:=⟨_,List.getElem?_eq_getElem hlt⟩
   obtain⟨bb,off,rfl,hbB,hc⟩:=a3 (by rintro rfl;simp at hlt)
   obtain⟨cs,⟨rfl,hok⟩,_,hu⟩:=hc k _ hr
   have e0:wr.cell? ⟨bb,off+k*2,none⟩=some (.int .i64 r.1):=(hB0.cell hbB).trans (hu 0 _ rfl)
   have e1:wr.cell? ⟨bb,off+k*2+1,none⟩=some (.int .i64 r.2):=(hB0.cell hbB).trans (hu 1 _ rfl)
   have hrok:=Ze a none HRA.out r (List.mem_of_getElem? hr)
   unfold runOk at hrok
   have HX:=hid (qZ3 (b:=b) hr)
   have HLE:Hid ((QX (a.take (k+1)) b).length<=900000):=Nat.le_trans (qV3 a b _) hN
   clear hu hc a3 hr
   go_wp2_with fail
   obtain⟨wo,rfl⟩:∃ wo:World,wo=wr:=⟨_,rfl⟩
   go_loopw [5,22] (fun v i wq=>∃ (j:Nat) (os:List (Int×Int)) (lo:Int),j<=b.length/\i=.int .i64 j/\OwnP wq w1.heap.size 167 2 RuE v os/\Hid (os++cutL (b.drop j) lo r.2=QX (a.take (k+1)) b)/\(∀ g,v.ownBlock=some g->g≠wo.heap.size) /\
     wq.heap[wo.heap.size]?=some (.cells #[.int .i64 lo,.int .i64 r.2] 167 (0,0))/\1<=lo/\lo<=1099511627777/\wo.heap.size<wq.heap.size/\Below w1.heap.size w1 wq) (fun _ i _=>b.length-(intOf i).toNat)
   case atStart=>exact⟨0,_,r.1,Nat.zero_le _,rfl,hown.alloc _,by unfold Hid;rw[HX.out];simp,fun g hg=>Nat.ne_of_lt (hown.lt g hg).2,Qd rfl,by omega,by omega,by simp,hbr.alloc (by omega) _⟩
   case round=>
    obtain⟨j,os,lo,hj,rfl,hown,HOS,hne,hg7,hl1,hl2,hsq,hbq⟩:=hrel
    have hBq:Below w.heap.size w wr:=hb1.trans (hbq.mono hs1)
    have d0:wr.cell? ⟨wo.heap.size,0,none⟩=some (.int .i64 lo):=Qa (i:=0) hg7
    have d1:wr.cell? ⟨wo.heap.size,1,none⟩=some (.int .i64 r.2):=Qa (i:=1) hg7
    have hf:=Qb (i:=0) hg7
    have hnq:wo.heap.size≠wr.heap.size:=by omega
    by_cases hlj:j<b.length
    ·obtain⟨x,hx⟩:∃ x,b[j]?=some x:=⟨_,List.getElem?_eq_getElem hlj⟩
     obtain⟨bb',off',rfl,hbB',hc⟩:=b3 (by rintro rfl;simp at hlj)
     obtain⟨cs,⟨rfl,hok'⟩,_,hu⟩:=hc j _ hx
     have f0:wr.cell? ⟨bb',off'+j*2,none⟩=some (.int .i64 x.1):=(hBq.cell hbB').trans (hu 0 _ rfl)
     have f1:wr.cell? ⟨bb',off'+j*2+1,none⟩=some (.int .i64 x.2):=(hBq.cell hbB').trans (hu 1 _ rfl)
     have hxok:=Ze b none HRB.out x (List.mem_of_getElem? hx)
     unfold runOk at hxok
     have hcut:=qV2 hx lo r.2
     clear hu hc b3 hx
     rcases t1:decide (x.2<lo)
     ·rcases t2:decide (r.2<x.1)
      ·have hno:¬(x.2<lo∨r.2<x.1):=by simp at t1 t2;omega
       rw[if_neg hno]at hcut
       rcases t3:decide (lo<x.1)
       ·have HO2:Hid (os++cutL (b.drop (j+1)) (x.2+1) r.2=QX (a.take (k+1)) b):=by
         have h:=HOS.out
         rw[hcut,if_neg (by simpa using t3)]at h;exact h
        clear hcut
        go_wp2_with fail
        have hW:=Qe (i:=0) hg7 (.int .i64 (x.2+1))
        have hZ:(wr.setCell ⟨wo.heap.size,0,none⟩ (.int .i64 (x.2+1))).heap.size=wr.heap.size:=by simp[World.setCell]
        go_roundw
        case rel=>exact⟨j+1,os,x.2+1,by omega,by go_num,(hown.keep fun g hg=>Below.heap_setCell _ _ _ _ (hne g hg)).alloc _,HO2,hne,(Qg (by omega)).trans (by simpa using hW),by omega,by omega,by rw[World.size_alloc];omega,(hbq.setCell (p:=⟨wo.heap.size,0,none⟩) (by show w1.heap.size<=wo.heap.size;omega) _).alloc (by omega) _⟩
        case measure=>simp[intOf];omega
       ·have HO2:Hid ((os++[(lo,x.1-1)])++cutL (b.drop (j+1)) (x.2+1) r.2=QX (a.take (k+1)) b):=by
         have h:=HOS.out
         rw[hcut,if_pos (by simpa using t3)]at h;unfold Hid;rw[←h];simp
        have hll:os.length+1<=900000:=by have h:=congrArg List.length HO2.out;have:=HLE.out;simp at h;omega
        have HRE:Hid (RuE (lo,x.1-1) [.int .i64 lo,.int .i64 (x.1-1)]):=⟨rfl,⟨by show _<=lo;omega,by show lo<=_;omega⟩,⟨by show _<=x.1-1;omega,by show x.1-1<=_;omega⟩⟩
        clear hcut
        go_wp2_with (at_builtin;go_loud (refine X2 rfl (.tmp 43) (.tmp 50) _ rfl eiRun (by decide) (fun _ _ h=>h.one) rfl ((hown.alloc _).alloc _) rfl (SlP.one (x:=(lo,x.1-1)) HRE.out rfl _ (by rw[World.size_alloc])) (by simp;omega) (by simp[Big];omega) (by rw[World.size_alloc,World.size_alloc];omega) ?_);intro v1 w4 hown4 hgr hob;go_loud (have hb4:Hid (Below w1.heap.size ((wr.alloc (.cells #[.int .i64 x.1,.int .i64 x.2] 167)).alloc (.cells #[.int .i64 lo,.int .i64 (x.1-1)] 167)) w4):=((Below.refl w1.heap.size _).grown hgr (by rw[World.size_alloc,World.size_alloc];omega) fun g hg=>(hown.lt g hg).1);have hg4:w4.heap[wo.heap.size]?=some (.cells #[.int .i64 lo,.int .i64 r.2] 167 (0,0)):=(hgr.block _ (by rw[World.size_alloc,World.size_alloc];omega) (fun e=>hne _ e.symm rfl)).trans ((Qg (by rw[World.size_alloc];omega)).trans ((Qg hsq).trans hg7));have g0:w4.cell? ⟨wo.heap.size,0,none⟩=some (.int .i64 lo):=Qa (i:=0) hg4;have gf:=Qb (i:=0) hg4;have hg5:w4.heap[wr.heap.size]?=some (.cells #[.int .i64 x.1,.int .i64 x.2] 167 (0,0)):=(hgr.block _ (by rw[World.size_alloc,World.size_alloc];omega) (fun e=>by have:=(hown.lt _ e.symm).2;omega)).trans ((Qg (by rw[World.size_alloc];omega)).trans (Qd rfl));have g1:w4.cell? ⟨wr.heap.size,1,none⟩=some (.int .i64 x.2):=Qa (i:=1) hg5))
        have hs4:=hb4.out.size
        have hz4:=hgr.size
        rw[World.size_alloc,World.size_alloc]at hz4
        have hne4:∀ g,v1.ownBlock=some g->g≠wo.heap.size:=fun g hg=>by
         rcases hob with h|h
         ·exact hne g (h▸hg)
         ·rw[h,World.size_alloc,World.size_alloc]at hg;cases hg;omega
        have hW:=Qe (i:=0) hg4 (.int .i64 (x.2+1))
        go_roundw
        case rel=>exact⟨j+1,_,x.2+1,by omega,by go_num,hown4.keep fun g hg=>Below.heap_setCell _ _ _ _ (hne4 g hg),HO2,hne4,by simpa using hW,by omega,by omega,by simp[World.setCell];omega,(((hbq.alloc (by omega) _).alloc (by rw[World.size_alloc];omega) _).trans hb4.out).setCell (p:=⟨wo.heap.size,0,none⟩) (by show w1.heap.size<=wo.heap.size;omega) _⟩
        case measure=>simp[intOf];omega
      ·have HO2:Hid (os++cutL (b.drop (j+1)) lo r.2=QX (a.take (k+1)) b):=by
        have h:=HOS.out
        rw[hcut,if_pos (.inr (by simpa using t2))]at h;exact h
       clear hcut
       go_wp2_with fail
       go_roundw
       case rel=>exact⟨j+1,os,lo,by omega,by go_num,hown.alloc _,HO2,hne,(Qg hsq).trans hg7,hl1,hl2,by simp;omega,hbq.alloc (by omega) _⟩
       case measure=>simp[intOf];omega
     ·have HO2:Hid (os++cutL (b.drop (j+1)) lo r.2=QX (a.take (k+1)) b):=by
       have h:=HOS.out
       rw[hcut,if_pos (.inl (by simpa using t1))]at h;exact h
      clear hcut
      go_wp2_with fail
      go_roundw
      case rel=>exact⟨j+1,os,lo,by omega,by go_num,hown.alloc _,HO2,hne,(Qg hsq).trans hg7,hl1,hl2,by simp;omega,hbq.alloc (by omega) _⟩
      case measure=>simp[intOf];omega
    ·obtain rfl:j=b.length:=by omega
     have hend:=HOS.out
     rw[List.drop_length,cutL]at hend
     rcases t4:decide (lo<=r.2)
     ·rw[if_neg (by simpa using t4),List.append_nil]at hend
      have HEN:=hid hend
      clear hend
      go_wp2_with fail
      go_roundw
      case rel=>exact⟨k+1,by omega,by go_num,by rw[←HEN.out];exact hown,hbq⟩
      case measure=>simp[intOf];omega
     ·rw[if_pos (by simpa using t4)]at hend
      have HEN:=hid hend
      have hll:os.length+1<=900000:=by have h:=congrArg List.length hend;have:=HLE.out;simp at h;omega
      have HL:Hid (os.length + [(lo,r.2)].length<=Few):=by unfold Hid Few;simp;omega
      have HRE:Hid (RuE (lo,r.2) [.int .i64 lo,.int .i64 r.2]):=⟨rfl,⟨by show _<=lo;omega,by show lo<=_;omega⟩,⟨by show _<=r.2;omega,by show r.2<=_;omega⟩⟩
      clear hend
      go_wp2_with (at_builtin;go_loud (refine Ql rfl (.tmp 62) (.tmp 64) _ rfl eiRun (by decide) (by decide) (fun _ _ h=>h.one) rfl (hown.alloc _) rfl (SlP.one (x:=(lo,r.2)) HRE.out rfl _ rfl) HL.out (by rw[World.size_alloc];omega) ?_);intro v1 w4 hown4 hb4 _)
      go_roundw
      case rel=>exact⟨k+1,by omega,by go_num,by rw[←HEN.out];exact hown4,(hbq.alloc (by omega) _).trans hb4⟩
      case measure=>simp[intOf];omega
  ·obtain rfl:k=a.length:=by omega
   rw[List.take_of_length_le (Nat.le_refl _)]at hown
   go_wp2_with fail
   go_ret
   exact⟨_,rfl,hown.mono hs1,hB0⟩
theorem qKc:VH 159 2:=
 ⟨enters_of Tryz.func159 (by kernel_rfl) rfl,fun a b va vb W ha hb hra hrb hN hN'=>qYp hra hrb▸qKb a b va vb W ha hb hra hrb (by rw[qYp hra hrb];have:=JJ a b 2;omega)⟩
theorem qKd (a b:List Sp)(va vb:Value)(w:World)(ha:SlP w w.heap.size 3 SpE va a)(hb:SlP w w.heap.size 3 SpE vb b)(hra:Qm a=true)(hrb:Qm b=true)(hN:a.length<=20000)(hN':b.length<=20000) :
  Calls Tryz.prog 116 #[va,vb] w (RetO w 45 3 (fun _=>SpE) (ctxBy a b 2)):=by
 go_enter Tryz.func116,Tryz.ntmps116
 go_wp2_with fail
 refine (qZy a b 2 _ qKc va vb w ha hb hra hrb hN hN').mono ?_
 rintro e w1 ⟨v,rfl,h⟩
 go_wp2_with fail
 go_ret
 exact⟨v,rfl,h⟩
theorem Ve (c:List Sp)(vc:Value)(w:World)(h:SlP w w.heap.size 3 SpE vc c)(hN:c.length<=900000) :
  Calls Tryz.prog 115 #[vc] w fun e w'=>e=.returned (.bool (Qm c))/\Below w.heap.size w w':=by
 have HC:=hid h
 obtain⟨A,n,rfl,_⟩:=h
 go_enter Tryz.func115,Tryz.ntmps115
 go_wp2_with fail
 refine (XF c _ _ HC.out hN).mono ?_
 rintro e w1 ⟨vs,rfl,hsl,hb1⟩
 have hs1:=hb1.size
 obtain⟨A0,m0,g0,_⟩:=hsl 0 (by omega)
 obtain⟨A1,m1,g1,_⟩:=hsl 1 (by omega)
 obtain⟨A2,m2,g2,_⟩:=hsl 2 (by omega)
 obtain⟨A3,m3,g3,_⟩:=hsl 3 (by omega)
 simp only[g0,g1,g2,g3]
 clear hsl g0 g1 g2 g3
 go_wp2_with fail
 all_goals (go_ret;exact⟨rfl,hb1.alloc hs1 _⟩)
def cLeq (a b:List Sp):Bool:=Qm a&&(Qm b&&decide ((ctxBy a b 2).length=0))
theorem zQu (a b:List Sp)(va vb:Value)(w:World)(ha:SlP w w.heap.size 3 SpE va a)(hb:SlP w w.heap.size 3 SpE vb b)(hN:a.length<=20000)(hN':b.length<=20000) :
  Calls Tryz.prog 69 #[va,vb] w fun e w'=>e=.returned (.bool (cLeq a b))/\Below w.heap.size w w':=by
 have HA:=hid ha
 have HB:=hid hb
 obtain⟨A1,c1,rfl,_⟩:=ha
 obtain⟨A2,c2,rfl,_⟩:=hb
 go_enter Tryz.func69,Tryz.ntmps69
 go_wp2_with fail
 refine (Ve a _ w HA.out (by omega)).mono ?_
 rintro e w1 ⟨rfl,hb1⟩
 have hs1:=hb1.size
 cases ra:Qm a
 ·have HR:Hid (cLeq a b=false):=by unfold Hid cLeq;rw[ra];rfl
  clear ra
  go_wp2_with fail
  go_ret
  exact⟨Qf HR.out.symm,hb1⟩
 have RA:=hid ra
 go_wp2_with fail
 refine (Ve b _ w1 (HB.out.imp hb1 hs1 fun _ _ _ h=>h) (by omega)).mono ?_
 rintro e w2 ⟨rfl,hb2⟩
 have hs2:=hb2.size
 have hB2:Below w.heap.size w w2:=hb1.trans (hb2.mono hs1)
 cases rb:Qm b
 ·have HR:Hid (cLeq a b=false):=by unfold Hid cLeq;rw[ra,rb];rfl
  clear ra rb
  go_wp2_with fail
  go_ret
  exact⟨Qf HR.out.symm,hB2⟩
 have RB:=hid rb
 have HR:Hid (cLeq a b=decide ((ctxBy a b 2).length=0)):=by unfold Hid cLeq;rw[ra,rb];rfl
 clear ra rb
 go_wp2_with fail
 refine (qKd a b _ _ w2 (HA.out.imp hB2 (by omega) fun _ _ _ h=>h) (HB.out.imp hB2 (by omega) fun _ _ _ h=>h) RA.out RB.out hN hN').mono ?_
 rintro e w3 ⟨v3,rfl,ho3,hb3⟩
 obtain⟨A5,c5,rfl⟩:=ho3.shape
 have hl:=Yn a b 2
 clear ho3
 generalize ctxBy a b 2=C at *
 rcases hz:decide (C.length=0)
 ·have hz2:C.length≠0:=by simpa using hz
  have HZ:=hid hz
  clear hz
  go_wp2_with fail
  go_ret
  exact⟨Qf (by rw[HR.out,HZ.out];simpa using hz2),hB2.trans (hb3.mono (by omega))⟩
 ·have hz2:C.length=0:=by simpa using hz
  have HZ:=hid hz
  clear hz
  go_wp2_with fail
  go_ret
  exact⟨Qf (by rw[HR.out,HZ.out]),hB2.trans (hb3.mono (by omega))⟩
def caR (t:Tr)(c:List Sp):Bool:=t.right 5&&cLeq (ctxOf t.dots) c
theorem QT (t:Tr)(c:List Sp)(ve vk vc:Value)(w:World)(h:t.rd w w.heap.size ve vk)(hc:SlP w w.heap.size 3 SpE vc c)(hN:t.sz<=4000)(hN':c.length<=20000) :
  Calls Tryz.prog 34 #[.agg #[ve,vk,vc]] w fun e w'=>e=.returned (.bool (caR t c))/\Below w.heap.size w w':=by
 have HC:Hid (∀ w',Below w.heap.size w w'->t.rd w' w'.heap.size ve vk):=fun w' hb=>Qi hb hb.size _ _ _ h
 have HS:Hid (∀ w',Below w.heap.size w w'->SlP w' w'.heap.size 3 SpE vc c):=fun w' hb=>hc.imp hb hb.size fun _ _ _ h=>h
 have hd1:=QL t.dots
 have hd2:=Zc t
 obtain⟨A3,n3,A4,n4,rfl,rfl⟩:=Qk h
 obtain⟨A5,n5,rfl,_⟩:=hc
 clear h
 have hb0:Below w.heap.size w (w.alloc (.cells #[.slice A3 t.es.length n3,.slice A4 t.ks.length n4,.slice A5 c.length n5] 29)):=(Below.refl _ w).alloc (Nat.le_refl _) _
 go_enter Tryz.func34,Tryz.ntmps34
 go_wp2_with fail
 refine (YI t _ _ _ (HC.out _ hb0) (by omega)).mono ?_
 rintro e w1 ⟨v1,n1,rfl,hn1,ho1,hb1⟩
 have hs1:=hb1.size
 simp only[World.size_alloc]at hs1
 have hB1:Below w.heap.size w w1:=hb0.trans (hb1.mono (by simp))
 have b2:w1.cell? ⟨w.heap.size,2,none⟩=some (.slice A5 c.length n5):=by rw[hb1.cell (p:=⟨w.heap.size,2,none⟩) (by simp)];simp
 cases hr:t.right 5
 ·rw[hr]at hn1 ho1
  simp only[Bool.false_eq_true,if_false]at hn1 ho1
  subst hn1
  have HR:Hid (caR t c=false):=by unfold Hid caR;rw[hr];rfl
  obtain⟨A6,n6,rfl⟩:=ho1.shape
  clear hr ho1
  go_wp2_with fail
  go_ret
  exact⟨Qf HR.out.symm,hB1⟩
 ·rw[hr]at hn1 ho1
  simp only[if_true]at hn1 ho1
  subst hn1
  have HR:Hid (caR t c=cLeq (ctxOf t.dots) c):=by unfold Hid caR;rw[hr];rfl
  have HSL:=hid (ho1.sl (by unfold Big;omega))
  obtain⟨A6,n6,rfl⟩:=ho1.shape
  clear hr ho1
  go_wp2_with fail
  refine (zQu (ctxOf t.dots) c _ _ w1 HSL.out (HS.out _ hB1) (by omega) hN').mono ?_
  rintro e w2 ⟨rfl,hb2⟩
  go_wp2_with fail
  go_ret
  exact⟨Qf HR.out.symm,hB1.trans (hb2.mono (by omega))⟩
theorem qQw (l:List (Int×Int))(v:Value)(w:World)(h:SlP w w.heap.size 2 RuE v l) :
  Calls Tryz.prog 122 #[v] w fun e w'=>e=.returned (.bool (runsR none l))/\Below w.heap.size w w':=by
 obtain⟨A,n,rfl,b1,b2,b3⟩:=h
 unfold Big at b2
 go_enter Tryz.func122,Tryz.ntmps122
 go_wp2_with fail
 go_loopw [6] (fun i wr=>∃ k:Nat,k<=l.length/\i=.int .i64 k/\Hid (runsR (prevR l k) (l.drop k)=runsR none l)/\Hid (∀ h,prevR l k=some h->1<=h/\h<=1099511627776)/\Below w.heap.size w wr) (fun i _=>l.length-(intOf i).toNat)
 case atStart=>exact⟨0,Nat.zero_le _,rfl,rfl,fun _ h=>by simp[prevR]at h,Below.refl _ _⟩
 case round=>
  obtain⟨k,hk,rfl,hrel,hpr,hb⟩:=hrel
  have hsz:=hb.size
  by_cases hlt:k<l.length
  ·obtain⟨r,hx⟩:∃ x,l[k]?=some x:=⟨_,List.getElem?_eq_getElem hlt⟩
   obtain⟨b,off,rfl,hbB,hc⟩:=b3 (by rintro rfl;simp at hlt)
   obtain⟨cs,⟨rfl,hok⟩,_,hu⟩:=hc k _ hx
   have hi1:=hok.1
   unfold I64 at hi1
   have e0:wr.cell? ⟨b,off+k*2,none⟩=some (.int .i64 r.1):=(hb.cell hbB).trans (hu 0 _ rfl)
   have e1:wr.cell? ⟨b,off+k*2+1,none⟩=some (.int .i64 r.2):=(hb.cell hbB).trans (hu 1 _ rfl)
   have HR:Hid (runsR none l=(numB r.1&&numB r.2&&decide (r.1<=r.2)&&okR (prevR l k) r.1&&runsR (prevR l (k+1)) (l.drop (k+1)))):=by
    have:=hrel.out
    rw[QJ hx,X7]at this
    rw[YU hx];exact this.symm
   have HPS:=hid (YU hx)
   have f0:=Qh (B:=wr.heap.size) (w:=wr) (b:=b) (o:=off+k*2) (v:=.int .i64 r.1) e0 (by omega)
   have f1:=Qh (B:=wr.heap.size) (w:=wr) (b:=b) (o:=off+k*2+1) (v:=.int .i64 r.2) e1 (by omega)
   have hprev:∃ q:Int,(0<k->prevR l k=some q/\(∀ p:Far wr.heap.size wr,p.w'.cell? ⟨b,off+(k-1)*2+1,none⟩=some (.int .i64 q))):=by
    by_cases h0:0<k
    ·obtain⟨y,hy⟩:∃ y,l[k-1]?=some y:=⟨_,List.getElem?_eq_getElem (by omega)⟩
     obtain⟨cs,⟨rfl,_⟩,_,hu⟩:=hc (k-1) _ hy
     refine⟨y.2,fun _=>⟨by rw[prevR,if_neg (by omega),hy];rfl,fun p=>Qh ?_ (by omega) p⟩⟩
     exact (hb.cell hbB).trans (hu 1 _ rfl)
    ·exact⟨0,fun h=>absurd h h0⟩
   obtain⟨q,hprev⟩:=hprev
   go_upto_region 4 with (fail)
   clear hrel hu hc b3 hx e0 e1 hok
   rcases t1:decide (r.1<1)
   case true=>
    have h1:Hid (numB r.1=false):=by have:=of_decide_eq_true t1;unfold Hid;simp[numB];omega
    refine Qc wr.heap.size (by kernel_rfl) (by kernel_rfl) ?_
    repeat (go_big_quiet_step (fail))
    refine wpQuiet_nil ?_
    intro wq hbq
    have hbw:Below w.heap.size w wq:=hb.trans (hbq.mono (by omega))
    go_wp2_with fail
    go_ret
    refine⟨Qf ?_,hbw⟩
    rw[HR.out]
    rw[h1.out];simp
   rcases t2:decide (1099511627776<r.2)
   case true=>
    have h2:Hid (numB r.2=false):=by have:=of_decide_eq_true t2;unfold Hid;simp[numB];omega
    refine Qc wr.heap.size (by kernel_rfl) (by kernel_rfl) ?_
    repeat (go_big_quiet_step (fail))
    refine wpQuiet_nil ?_
    intro wq hbq
    have hbw:Below w.heap.size w wq:=hb.trans (hbq.mono (by omega))
    go_wp2_with fail
    go_ret
    refine⟨Qf ?_,hbw⟩
    rw[HR.out]
    rw[h2.out];simp
   rcases t3:decide (r.2<r.1)
   case true=>
    have h3:Hid (decide (r.1<=r.2)=false):=by have:=of_decide_eq_true t3;unfold Hid;simp;omega
    refine Qc wr.heap.size (by kernel_rfl) (by kernel_rfl) ?_
    repeat (go_big_quiet_step (fail))
    refine wpQuiet_nil ?_
    intro wq hbq
    have hbw:Below w.heap.size w wq:=hb.trans (hbq.mono (by omega))
    go_wp2_with fail
    go_ret
    refine⟨Qf ?_,hbw⟩
    rw[HR.out]
    rw[h3.out];simp
   have g1:=of_decide_eq_false t1
   have g2:=of_decide_eq_false t2
   have g3:=of_decide_eq_false t3
   have h3:Hid (decide (r.1<=r.2)=true):=by unfold Hid;simp;omega
   have h1:numB r.1=true:=by simp[numB];omega
   have h2:numB r.2=true:=by simp[numB];omega
   have HN:Hid (∀ h,prevR l (k+1)=some h->1<=h/\h<=1099511627776):=fun h hh=>by rw[HPS.out]at hh;cases hh;omega
   rcases Nat.eq_zero_or_pos k with h0|h0
   ·have t0:decide ((0:Int)<(k:Int))=false:=by simp;omega
    have t0':decide (0<k)=false:=by simp;omega
    have hpk:Hid (okR (prevR l k) r.1=true):=by rw[show prevR l k=none by (rw[h0];rfl)];rfl
    clear h0 hprev
    refine Qc wr.heap.size (by kernel_rfl) (by kernel_rfl) ?_
    repeat (go_big_quiet_step (fail))
    refine wpQuiet_nil ?_
    intro wq hbq
    have hbw:Below w.heap.size w wq:=hb.trans (hbq.mono (by omega))
    go_wp2_with fail
    go_roundw
    case rel=>
     refine⟨k+1,by omega,by go_num,?_,HN.out,hbw⟩
     show _=_
     rw[HR.out,h1,h2]
     rw[h3.out,hpk.out];simp
    case measure=>simp[intOf];omega
   ·obtain⟨hq,q0⟩:=hprev h0
    have hqb:=hpr.out q hq
    have hwq:IntKind.i64.wrap (r.1-q)=r.1-q:=IntWalk.i64_in _ (by omega)
    have hwk:IntKind.i64.wrap ((k:Int)-1)=(k:Int)-1:=IntWalk.i64_in _ (by omega)
    rcases t5:decide (r.1-q<2)
    ·have hpk:Hid (okR (prevR l k) r.1=true):=by rw[hq];have:=of_decide_eq_false t5;unfold Hid;simp[okR];omega
     clear hprev hq hqb
     refine Qc wr.heap.size (by kernel_rfl) (by kernel_rfl) ?_
     repeat (go_big_quiet_step (fail))
     refine wpQuiet_nil ?_
     intro wq hbq
     have hbw:Below w.heap.size w wq:=hb.trans (hbq.mono (by omega))
     go_wp2_with fail
     go_roundw
     case rel=>
      refine⟨k+1,by omega,by go_num,?_,HN.out,hbw⟩
      show _=_
      rw[HR.out,h1,h2]
      rw[h3.out,hpk.out];simp
     case measure=>simp[intOf];omega
    ·have hpk:Hid (okR (prevR l k) r.1=false):=by rw[hq];have:=of_decide_eq_true t5;unfold Hid;simp[okR];omega
     clear hprev hq hqb
     refine Qc wr.heap.size (by kernel_rfl) (by kernel_rfl) ?_
     repeat (go_big_quiet_step (fail))
     refine wpQuiet_nil ?_
     intro wq hbq
     have hbw:Below w.heap.size w wq:=hb.trans (hbq.mono (by omega))
     go_wp2_with fail
     go_ret
     refine⟨Qf ?_,hbw⟩
     rw[HR.out]
     rw[h1,h2,h3.out,hpk.out];simp
  ·obtain rfl:k=l.length:=by omega
   have hr:=hrel.out
   go_wp2_with fail
   go_ret
   exact⟨Qf (by rw[←hr];simp[runsR]),hb⟩
theorem Z9 (c:List Sp)(vc:Value)(w:World)(h:SlP w w.heap.size 3 SpE vc c)(hN:c.length<=900000) :
  Calls Tryz.prog 76 #[vc] w fun e w'=>e=.returned (.bool (Qm c))/\Below w.heap.size w w':=by
 have HS:=hid h
 obtain⟨A,n,rfl,b1,b2,b3⟩:=h
 unfold Big at b2
 go_enter Tryz.func76,Tryz.ntmps76
 go_wp2_with fail
 go_loopw [7] (fun i wr=>∃ (k:Nat) (L:Int),k<=c.length/\i=.int .i64 k/\Hid (dcsOk L (c.drop k)=dcsOk 0 c)/\Hid (∀ y,0<k->c[k-1]?=some y->y.dc=L)/\Hid (k=0->L=0)/\0<=L/\Below w.heap.size w wr) (fun i _=>c.length-(intOf i).toNat)
 case atStart=>exact⟨0,0,Nat.zero_le _,rfl,rfl,fun _ h=>absurd h (Nat.not_lt_zero _),fun _=>rfl,Int.le_refl _,Below.refl _ _⟩
 case round=>
  obtain⟨k,L,hk,rfl,hrel,hpr,hz0,hL,hb⟩:=hrel
  have hsz:=hb.size
  by_cases hlt:k<c.length
  ·obtain⟨x,hx⟩:∃ x,c[k]?=some x:=⟨_,List.getElem?_eq_getElem hlt⟩
   obtain⟨b,off,rfl,hbB,hc⟩:=b3 (by rintro rfl;simp at hlt)
   obtain⟨cs,⟨rfl,hok⟩,_,hu⟩:=hc k _ hx
   have e0:wr.cell? ⟨b,off+k*3,none⟩=some (.int .i64 x.dc):=(hb.cell hbB).trans (hu 0 _ rfl)
   have HR:Hid (dcsOk 0 c=(decide (L<=x.dc)&&decide (x.dc<4)&&dcsOk x.dc (c.drop (k+1)))):=by
    have:=hrel.out
    rw[QJ hx,dcsOk]at this
    exact this.symm
   have HQ:Hid (∀ y,0<k+1->c[k+1-1]?=some y->y.dc=x.dc):=fun y _ hy=>by
    rw[Nat.add_sub_cancel,hx]at hy;cases hy;rfl
   have f0:=Qh (B:=wr.heap.size) (w:=wr) (b:=b) (o:=off+k*3) (v:=.int .i64 x.dc) e0 (by omega)
   have hprev:0<k->(∀ p:Far wr.heap.size wr,p.w'.cell? ⟨b,off+(k-1)*3,none⟩=some (.int .i64 L)):=fun h0=>by
    obtain⟨y,hy⟩:∃ y,c[k-1]?=some y:=⟨_,List.getElem?_eq_getElem (by omega)⟩
    obtain⟨cs,⟨rfl,_⟩,_,hu⟩:=hc (k-1) _ hy
    intro p
    refine Qh ?_ (by omega) p
    rw[←hpr.out y h0 hy]
    exact (hb.cell hbB).trans (hu 0 _ rfl)
   go_upto_region 4 with (fail)
   clear hrel hu hc b3 hx e0 hok hpr
   rcases t1:decide (x.dc<0)
   case true=>
    have HF:Hid (Qm c=false):=by
     have:=of_decide_eq_true t1
     unfold Hid Qm;rw[HR.out,decide_eq_false (show ¬L<=x.dc by omega)];rfl
    refine Qc wr.heap.size (by kernel_rfl) (by kernel_rfl) ?_
    repeat (go_big_quiet_step (fail))
    refine wpQuiet_nil ?_
    intro wq hbq
    have hbw:Below w.heap.size w wq:=hb.trans (hbq.mono (by omega))
    go_wp2_with fail
    go_ret
    exact⟨Qf HF.out.symm,hbw⟩
   rcases t2:decide (4<=x.dc)
   case true=>
    have HF:Hid (Qm c=false):=by
     have:=of_decide_eq_true t2
     unfold Hid Qm;rw[HR.out,decide_eq_false (show ¬x.dc<4 by omega)];simp
    refine Qc wr.heap.size (by kernel_rfl) (by kernel_rfl) ?_
    repeat (go_big_quiet_step (fail))
    refine wpQuiet_nil ?_
    intro wq hbq
    have hbw:Below w.heap.size w wq:=hb.trans (hbq.mono (by omega))
    go_wp2_with fail
    go_ret
    exact⟨Qf HF.out.symm,hbw⟩
   have g1:0<=x.dc:=by have:=of_decide_eq_false t1;omega
   have g2:=of_decide_eq_false t2
   rcases Nat.eq_zero_or_pos k with h0|h0
   ·have t0:decide ((0:Int)<(k:Int))=false:=by simp;omega
    have t0':decide (0<k)=false:=by simp;omega
    have HG:Hid (dcsOk x.dc (c.drop (k+1))=dcsOk 0 c):=by
     unfold Hid;rw[HR.out,decide_eq_true (show L<=x.dc by have:=hz0.out h0;omega),decide_eq_true (show x.dc<4 by omega)];rfl
    clear h0 hprev
    refine Qc wr.heap.size (by kernel_rfl) (by kernel_rfl) ?_
    repeat (go_big_quiet_step (fail))
    refine wpQuiet_nil ?_
    intro wq hbq
    have hbw:Below w.heap.size w wq:=hb.trans (hbq.mono (by omega))
    go_wp2_with fail
    go_roundw
    case rel=>exact⟨k+1,x.dc,by omega,by go_num,HG.out,HQ.out,fun h=>absurd h (Nat.succ_ne_zero k),g1,hbw⟩
    case measure=>simp[intOf];omega
   ·have q0:=hprev h0
    have hwk:IntKind.i64.wrap ((k:Int)-1)=(k:Int)-1:=IntWalk.i64_in _ (by omega)
    clear hprev
    rcases t5:decide (x.dc<L)
    ·have HG:Hid (dcsOk x.dc (c.drop (k+1))=dcsOk 0 c):=by
      have:=of_decide_eq_false t5
      unfold Hid;rw[HR.out,decide_eq_true (show L<=x.dc by omega),decide_eq_true (show x.dc<4 by omega)];rfl
     refine Qc wr.heap.size (by kernel_rfl) (by kernel_rfl) ?_
     repeat (go_big_quiet_step (fail))
     refine wpQuiet_nil ?_
     intro wq hbq
     have hbw:Below w.heap.size w wq:=hb.trans (hbq.mono (by omega))
     go_wp2_with fail
     go_roundw
     case rel=>exact⟨k+1,x.dc,by omega,by go_num,HG.out,HQ.out,fun h=>absurd h (Nat.succ_ne_zero k),g1,hbw⟩
     case measure=>simp[intOf];omega
    ·have HF:Hid (Qm c=false):=by
      have:=of_decide_eq_true t5
      unfold Hid Qm;rw[HR.out,decide_eq_false (show ¬L<=x.dc by omega)];rfl
     refine Qc wr.heap.size (by kernel_rfl) (by kernel_rfl) ?_
     repeat (go_big_quiet_step (fail))
     refine wpQuiet_nil ?_
     intro wq hbq
     have hbw:Below w.heap.size w wq:=hb.trans (hbq.mono (by omega))
     go_wp2_with fail
     go_ret
     exact⟨Qf HF.out.symm,hbw⟩
  ·obtain rfl:k=c.length:=by omega
   have HD:Hid (dcsOk 0 c=true):=by
    have:=hrel.out
    rw[List.drop_of_length_le (Nat.le_refl _),dcsOk]at this
    exact this.symm
   clear hrel hpr hz0 b3
   go_wp2_with fail
   obtain⟨wo,rfl⟩:∃ wo:World,wo=wr:=⟨_,rfl⟩
   go_loopw [43] (fun i wr=>∃ k:Nat,k<=4/\i=.int .i64 k/\Hid (((List.range k).all fun (dc:Nat)=>runsR none (partL c dc))=true)/\Below w.heap.size w wr) (fun i _=>4-(intOf i).toNat)
   case atStart=>exact⟨0,Nat.zero_le _,rfl,rfl,hb⟩
   case round=>
    clear hb hsz
    obtain⟨k,hk,rfl,hrel,hb⟩:=hrel
    have hsz:=hb.size
    by_cases hlt:k<4
    ·have HA:Hid (((List.range (k+1)).all fun (dc:Nat)=>runsR none (partL c dc))=runsR none (partL c k)):=by
      unfold Hid;rw[List.range_succ,List.all_append,hrel.out];simp
     have hpl:=QK c k
     go_wp2_with fail
     refine (Ys c k _ wr (HS.out.imp hb hsz fun _ _ _ h=>h) (by omega)).mono ?_
     rintro e w1 ⟨v1,rfl,ho1,hb1⟩
     have hs1:=hb1.size
     have HO1:=hid (ho1.sl (by unfold Big;omega))
     clear ho1
     go_wp2_with fail
     refine (qQw (partL c k) _ w1 HO1.out).mono ?_
     rintro e w2 ⟨rfl,hb2⟩
     have hB2:Below w.heap.size w w2:=(hb.trans (hb1.mono hsz)).trans (hb2.mono (by omega))
     clear hb1 hb2
     rcases hq:runsR none (partL c k)
     ·have HF:Hid (Qm c=false):=by
       unfold Hid Qm
       rw[HD.out,Bool.true_and]
       refine List.all_eq_false.2 ⟨k,List.mem_range.2 hlt,?_⟩
       rw[hq];simp
      go_wp2_with fail
      go_ret
      exact⟨Qf HF.out.symm,hB2⟩
     ·have HA2:Hid (((List.range (k+1)).all fun (dc:Nat)=>runsR none (partL c dc))=true):=by unfold Hid;rw[HA.out,hq]
      go_wp2_with fail
      go_roundw
      case rel=>exact⟨k+1,by omega,by go_num,HA2.out,hB2⟩
      case measure=>simp[intOf];omega
    ·obtain rfl:k=4:=by omega
     have HT:Hid (Qm c=true):=by unfold Hid Qm;rw[HD.out,hrel.out];rfl
     go_wp2_with fail
     go_ret
     exact⟨Qf HT.out.symm,hb⟩
def rLeq (a b:List Sp):Bool:=decide ((ctxBy a b 2).length=0)
theorem Vf (a b:List Sp)(va vb:Value)(w:World)(ha:SlP w w.heap.size 3 SpE va a)(hb:SlP w w.heap.size 3 SpE vb b)(hN:a.length<=50000)(hN':b.length<=50000)(hR:SpsOk a)(hR':SpsOk b) :
  Calls Tryz.prog 77 #[va,vb] w fun e w'=>e=.returned (.bool (rLeq a b))/\Below w.heap.size w w':=by
 go_enter Tryz.func77,Tryz.ntmps77
 go_wp2_with fail
 refine (V1 a b 2 _ _ w ha hb hN hN' hR hR' (by simp)).mono ?_
 rintro e w3 ⟨v3,rfl,ho3,hb3⟩
 obtain⟨A5,c5,rfl⟩:=ho3.shape
 have HR0:Hid (rLeq a b=decide ((ctxBy a b 2).length=0)):=rfl
 have hl:=Yn a b 2
 clear ho3
 generalize ctxBy a b 2=C at *
 rcases hz:decide (C.length=0)
 ·have hz2:C.length≠0:=by simpa using hz
  have HZ:=hid hz
  clear hz
  go_wp2_with fail
  go_ret
  exact⟨Qf (by rw[HR0.out,HZ.out];simpa using hz2),hb3⟩
 ·have hz2:C.length=0:=by simpa using hz
  have HZ:=hid hz
  clear hz
  go_wp2_with fail
  go_ret
  exact⟨Qf (by rw[HR0.out,HZ.out]),hb3⟩
theorem Zv {c:List Sp}(h:Qm c=true):SpsOk c:=fun s hs=>by
 have hd:=ZX c 0 (by unfold Qm at h;simp at h;exact h.1) s hs
 obtain⟨i,hi⟩:∃ i:Nat,(i:Int)=s.dc:=⟨s.dc.toNat,by omega⟩
 have hr:=Qx h (i:=i) (by omega)
 have hm:(s.fr,s.hi)∈partL c (i:Int):=by
  unfold partL
  exact List.mem_map.2 ⟨s,List.mem_filter.2 ⟨hs,by simp[hi]⟩,rfl⟩
 have:=J6 _ none hr _ hm
 unfold runOk at this
 exact⟨by show 0<=s.fr;simp at this;omega,by show s.fr<=_;simp at this;omega,by show 0<=s.hi;simp at this;omega,by show s.hi<=_;simp at this;omega⟩
def r9R (t:Tr)(c:List Sp):Bool:=t.right 5&&(Qm c&&rLeq (ctxOf t.dots) c)
theorem zZ3 (t:Tr)(c:List Sp):caR t c=r9R t c:=by
 unfold caR r9R cLeq rLeq
 cases h:t.right 5
 ·rfl
 ·rw[Qr (Q3 t 5 h)];rfl
theorem qQx (t:Tr)(c:List Sp)(ve vk vc:Value)(w:World)(h:t.rd w w.heap.size ve vk)(hc:SlP w w.heap.size 3 SpE vc c)(hN:t.sz<=4000)(hN':c.length<=20000) :
  Calls Tryz.prog 38 #[.agg #[ve,vk,vc]] w fun e w'=>e=.returned (.bool (r9R t c))/\Below w.heap.size w w':=by
 have HC:Hid (∀ w',Below w.heap.size w w'->t.rd w' w'.heap.size ve vk):=fun w' hb=>Qi hb hb.size _ _ _ h
 have HS:Hid (∀ w',Below w.heap.size w w'->SlP w' w'.heap.size 3 SpE vc c):=fun w' hb=>hc.imp hb hb.size fun _ _ _ h=>h
 have hd1:=QL t.dots
 have hd2:=Zc t
 have hcl:(ctxOf t.dots).length<=50000:=by omega
 have HBL:Hid ((ctxOf t.dots).length<=Big):=by unfold Hid Big;omega
 obtain⟨A3,n3,A4,n4,rfl,rfl⟩:=Qk h
 obtain⟨A5,n5,rfl,_⟩:=hc
 clear h
 have hb0:Below w.heap.size w (w.alloc (.cells #[.slice A3 t.es.length n3,.slice A4 t.ks.length n4,.slice A5 c.length n5] 29)):=(Below.refl _ w).alloc (Nat.le_refl _) _
 have HB:Hid (∀ w',Below (w.heap.size+1) (w.alloc (.cells #[.slice A3 t.es.length n3,.slice A4 t.ks.length n4,.slice A5 c.length n5] 29)) w'->Below w.heap.size w w'/\t.rd w' w'.heap.size (.slice A3 t.es.length n3) (.slice A4 t.ks.length n4)/\SlP w' w'.heap.size 3 SpE (.slice A5 c.length n5) c/\(w'.cell? ⟨w.heap.size,0,none⟩=some (.slice A3 t.es.length n3)/\w'.cell? ⟨w.heap.size,1,none⟩=some (.slice A4 t.ks.length n4)/\w'.cell? ⟨w.heap.size,2,none⟩=some (.slice A5 c.length n5))):=fun w' hb=>by
  have hB:=hb0.trans (hb.mono (by omega))
  refine⟨hB,HC.out _ hB,HS.out _ hB,?_,?_,?_⟩
  ·rw[hb.cell (p:=⟨w.heap.size,0,none⟩) (by simp),World.cell?_alloc_new];rfl
  ·rw[hb.cell (p:=⟨w.heap.size,1,none⟩) (by simp),World.cell?_alloc_new];rfl
  ·rw[hb.cell (p:=⟨w.heap.size,2,none⟩) (by simp),World.cell?_alloc_new];rfl
 go_enter Tryz.func38,Tryz.ntmps38
 cases r1:t.right 5
 ·have HR1:=hid r1
  have HF:Hid (r9R t c=false):=by unfold Hid r9R;rw[r1];rfl
  clear r1
  have f0:=Qh (B:=w.heap.size+1) (w:=w.alloc (.cells #[.slice A3 t.es.length n3,.slice A4 t.ks.length n4,.slice A5 c.length n5] 29)) (b:=w.heap.size) (o:=0) (v:=.slice A3 t.es.length n3) (by simp) (by omega)
  have f1:=Qh (B:=w.heap.size+1) (w:=w.alloc (.cells #[.slice A3 t.es.length n3,.slice A4 t.ks.length n4,.slice A5 c.length n5] 29)) (b:=w.heap.size) (o:=1) (v:=.slice A4 t.ks.length n4) (by simp) (by omega)
  have f2:=Qh (B:=w.heap.size+1) (w:=w.alloc (.cells #[.slice A3 t.es.length n3,.slice A4 t.ks.length n4,.slice A5 c.length n5] 29)) (b:=w.heap.size) (o:=2) (v:=.slice A5 c.length n5) (by simp) (by omega)
  go_upto_region 1 with (fail)
  refine Qc (w.heap.size+1) (by kernel_rfl) (by kernel_rfl) ?_
  repeat (go_big_quiet_step (first|(go_at_call 48;exact Calls.far_all (by simp) (fun w' hb'=>HR1.out▸QR t w' _ _ (HB.out w' hb').2.1))|(go_at_call 76;exact Calls.far_all (by simp) (fun w' hb'=>HR2.out▸Z9 c _ w' (HB.out w' hb').2.2.1 (by omega)))))
  refine wpQuiet_nil ?_
  intro wq hbq
  go_wp2_with fail
  go_ret
  exact⟨Qf HF.out.symm,(HB.out _ hbq).1⟩
 have HR1:=hid r1
 cases r2:Qm c
 ·have HR2:=hid r2
  have HF:Hid (r9R t c=false):=by unfold Hid r9R;rw[r1,r2];rfl
  clear r1 r2
  have f0:=Qh (B:=w.heap.size+1) (w:=w.alloc (.cells #[.slice A3 t.es.length n3,.slice A4 t.ks.length n4,.slice A5 c.length n5] 29)) (b:=w.heap.size) (o:=0) (v:=.slice A3 t.es.length n3) (by simp) (by omega)
  have f1:=Qh (B:=w.heap.size+1) (w:=w.alloc (.cells #[.slice A3 t.es.length n3,.slice A4 t.ks.length n4,.slice A5 c.length n5] 29)) (b:=w.heap.size) (o:=1) (v:=.slice A4 t.ks.length n4) (by simp) (by omega)
  have f2:=Qh (B:=w.heap.size+1) (w:=w.alloc (.cells #[.slice A3 t.es.length n3,.slice A4 t.ks.length n4,.slice A5 c.length n5] 29)) (b:=w.heap.size) (o:=2) (v:=.slice A5 c.length n5) (by simp) (by omega)
  go_upto_region 1 with (fail)
  refine Qc (w.heap.size+1) (by kernel_rfl) (by kernel_rfl) ?_
  repeat (go_big_quiet_step (first|(go_at_call 48;exact Calls.far_all (by simp) (fun w' hb'=>HR1.out▸QR t w' _ _ (HB.out w' hb').2.1))|(go_at_call 76;exact Calls.far_all (by simp) (fun w' hb'=>HR2.out▸Z9 c _ w' (HB.out w' hb').2.2.1 (by omega)))))
  refine wpQuiet_nil ?_
  intro wq hbq
  go_wp2_with fail
  go_ret
  exact⟨Qf HF.out.symm,(HB.out _ hbq).1⟩
 have HR2:=hid r2
 have HF:Hid (r9R t c=rLeq (ctxOf t.dots) c):=by unfold Hid r9R;rw[r1,r2];rfl
 have HRN:Hid (∀ d∈t.dots,0<=d.n/\d.n<=1099511627778):=K8 r1
 have HS1:=hid (Xh (Q3 t 5 r1))
 have HS2:=hid (Zv r2)
 clear r1 r2 hd1 hd2
 have hr3:rLeq (ctxOf t.dots) c=rLeq (ctxOf t.dots) c:=rfl
 cases r3:rLeq (ctxOf t.dots) c
 ·have HR3:=hid r3
  clear r3
  go_upto_region 1 with (fail)
  go_region_held3 (fun w'=>w'.cell? ⟨w.heap.size,0,none⟩=some (.slice A3 t.es.length n3)/\w'.cell? ⟨w.heap.size,1,none⟩=some (.slice A4 t.ks.length n4)/\w'.cell? ⟨w.heap.size,2,none⟩=some (.slice A5 c.length n5))
   (first|go_keep|exact (HB.out _ hb4.out).2.2.2|exact (HB.out _ hb3.out).2.2.2|exact (HB.out _ hb2.out).2.2.2|exact (HB.out _ hb1.out).2.2.2)
   (first
       |(go_at_call 48;go_loud ((refine (QR t _ _ _ (HB.out _ (by go_grown)).2.1).mono ?_);rw[HR1.out];rintro e w1 ⟨rfl,hb⟩;have hb1:Hid (Below (w.heap.size+1) (w.alloc (.cells #[.slice A3 t.es.length n3,.slice A4 t.ks.length n4,.slice A5 c.length n5] 29)) w1):=(Below.trans (by go_grown) (hb.mono (by simp)))))
       |(go_at_call 76;go_loud ((refine (Z9 c _ w1 (HB.out _ hb1.out).2.2.1 (by omega)).mono ?_);rw[HR2.out];rintro e w2 ⟨rfl,hb⟩;have hb2:=hid (hb1.out.trans (hb.mono (by have:=hb1.out.size;simpa using this)))))
       |(go_at_call 78;go_loud ((refine (Zo t w2 _ _ (HB.out _ hb2.out).2.1 (by omega) HRN.out).mono ?_);rintro e w3 ⟨v3,rfl,ho3,hb⟩;have hb3:=hid (hb2.out.trans (hb.mono (by have:=hb2.out.size;simpa using this)));have hsl3:=hid (ho3.sl HBL.out);obtain⟨A9,c9,hv9⟩:=ho3.shape;subst hv9;clear ho3))
       |(go_at_call 77;go_loud ((refine (Vf (ctxOf t.dots) c _ _ w3 hsl3.out (HB.out _ hb3.out).2.2.1 hcl (by omega) HS1.out HS2.out).mono ?_);rw[HR3.out];rintro e w4 ⟨rfl,hb⟩;have hb4:=hid (hb3.out.trans (hb.mono (by have:=hb3.out.size;simpa using this))))))
  go_wp2_with fail
  go_ret
  exact⟨Qf (by rw[HF.out,HR3.out]),(HB.out _ hb4.out).1⟩
 ·have HR3:=hid r3
  clear r3
  go_upto_region 1 with (fail)
  go_region_held3 (fun w'=>w'.cell? ⟨w.heap.size,0,none⟩=some (.slice A3 t.es.length n3)/\w'.cell? ⟨w.heap.size,1,none⟩=some (.slice A4 t.ks.length n4)/\w'.cell? ⟨w.heap.size,2,none⟩=some (.slice A5 c.length n5))
   (first|go_keep|exact (HB.out _ hb4.out).2.2.2|exact (HB.out _ hb3.out).2.2.2|exact (HB.out _ hb2.out).2.2.2|exact (HB.out _ hb1.out).2.2.2)
   (first
       |(go_at_call 48;go_loud ((refine (QR t _ _ _ (HB.out _ (by go_grown)).2.1).mono ?_);rw[HR1.out];rintro e w1 ⟨rfl,hb⟩;have hb1:Hid (Below (w.heap.size+1) (w.alloc (.cells #[.slice A3 t.es.length n3,.slice A4 t.ks.length n4,.slice A5 c.length n5] 29)) w1):=(Below.trans (by go_grown) (hb.mono (by simp)))))
       |(go_at_call 76;go_loud ((refine (Z9 c _ w1 (HB.out _ hb1.out).2.2.1 (by omega)).mono ?_);rw[HR2.out];rintro e w2 ⟨rfl,hb⟩;have hb2:=hid (hb1.out.trans (hb.mono (by have:=hb1.out.size;simpa using this)))))
       |(go_at_call 78;go_loud ((refine (Zo t w2 _ _ (HB.out _ hb2.out).2.1 (by omega) HRN.out).mono ?_);rintro e w3 ⟨v3,rfl,ho3,hb⟩;have hb3:=hid (hb2.out.trans (hb.mono (by have:=hb2.out.size;simpa using this)));have hsl3:=hid (ho3.sl HBL.out);obtain⟨A9,c9,hv9⟩:=ho3.shape;subst hv9;clear ho3))
       |(go_at_call 77;go_loud ((refine (Vf (ctxOf t.dots) c _ _ w3 hsl3.out (HB.out _ hb3.out).2.2.1 hcl (by omega) HS1.out HS2.out).mono ?_);rw[HR3.out];rintro e w4 ⟨rfl,hb⟩;have hb4:=hid (hb3.out.trans (hb.mono (by have:=hb3.out.size;simpa using this))))))
  go_wp2_with fail
  go_ret
  exact⟨Qf (by rw[HF.out,HR3.out]),(HB.out _ hb4.out).1⟩
def sml9 (t:Tr)(c:List Sp)(n:Int):Bool:=smlB t n&&decide ((c.length:Int)<=n)
theorem qQy (t:Tr)(c:List Sp)(n:Int)(ve vk vc:Value)(w:World)(h:t.rd w w.heap.size ve vk)(hc:SlP w w.heap.size 3 SpE vc c)(hn:0<=n)(hn':n<=1000) :
  Calls Tryz.prog 35 #[.agg #[ve,vk,vc],.int .i64 n] w fun e w'=>e=.returned (.bool (sml9 t c n))/\Below w.heap.size w w':=by
 have HC:Hid (∀ w',Below w.heap.size w w'->t.rd w' w'.heap.size ve vk):=fun w' hb=>Qi hb hb.size _ _ _ h
 obtain⟨A3,n3,A4,n4,rfl,rfl⟩:=Qk h
 obtain⟨A5,n5,rfl,_,hcl,_⟩:=hc
 unfold Big at hcl
 clear h
 have hb0:Below w.heap.size w (w.alloc (.cells #[.slice A3 t.es.length n3,.slice A4 t.ks.length n4,.slice A5 c.length n5] 29)):=(Below.refl _ w).alloc (Nat.le_refl _) _
 go_enter Tryz.func35,Tryz.ntmps35
 go_wp2_with fail
 refine (qQh t _ _ _ n (HC.out _ hb0) hn hn').mono ?_
 rintro e w1 ⟨rfl,hb1⟩
 rw[show decide (0<=t.room n 8)=smlB t n from rfl]
 have hB1:Below w.heap.size w w1:=hb0.trans (hb1.mono (by simp))
 have c2:w1.cell? ⟨w.heap.size,2,none⟩=some (.slice A5 c.length n5):=by rw[hb1.cell (p:=⟨w.heap.size,2,none⟩) (by simp),World.cell?_alloc_new];rfl
 cases hs:smlB t n
 ·have HF:Hid (sml9 t c n=false):=by unfold Hid sml9;rw[hs];rfl
  clear hs
  go_wp2_with fail
  go_ret
  exact⟨Qf HF.out.symm,hB1⟩
 ·have HF:Hid (sml9 t c n=decide ((c.length:Int)<=n)):=by unfold Hid sml9;rw[hs];rfl
  clear hs
  go_wp2_with fail
  go_ret
  exact⟨Qf HF.out.symm,hB1⟩
end Go.Proofs.YtbcoelggdikipaaGreat
