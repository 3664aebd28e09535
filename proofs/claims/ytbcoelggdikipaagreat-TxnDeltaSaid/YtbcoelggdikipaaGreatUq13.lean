/- What the laws need. No condition but those that each lemma states. -/
import Derived.Deep.CutBlock
import Derived.Test.YtbcoelggdikipaaGreatUq12
import Derived.Test.YtbcoelggdikipaaGreatUq4
import Derived.Test.YtbcoelggdikipaaGreatUq8
import Derived.Test.YtbcoelggdikipaaGreatUq9
import Derived.Test.YtbcoelggdikipaaGreatUq11
import Derived.Test.YtbcoelggdikipaaGreatUq1
import Derived.Test.YtbcoelggdikipaaGreatUq10
import Derived.Test.YtbcoelggdikipaaGreatUq2
set_option maxRecDepth 100000
set_option maxHeartbeats 8000000
set_option linter.unusedSimpArgs false
namespace Go.Proofs.YtbcoelggdikipaaGreat
open Go.RowKit
theorem slLf {W0 W:World}{ok ok':Nat->Prop}{v:Value}{l:List Lf}(h:SlP W0 W0.heap.size 5 (LfA W0 ok) v l)(hb:Below W0.heap.size W0 W)(ho:∀ b,ok b->b<W0.heap.size)(ho':∀ b,ok b->ok' b):SlP W W.heap.size 5 (LfA W ok') v l:=
 h.imp hb hb.size fun _ _ _ hx=>LfA.mon.up (fun b hb'=>hb.block b (ho b hb')) (fun b hb'=>ho' b hb') hx
theorem KD {W:World}{n:Nat}{v:Value}{z:Lf}{A:Option Addr}{c:Nat}(e:TypeId)(hp:SlA W (fun b=>b<n) 1 StE (.slice A z.1.length c) z.1)(hk:z.2.Ok)(hv:∀ g,v.ownBlock=some g->n<=g)(hn:n<=W.heap.size) :
  SlP (W.alloc (.cells #[.slice A z.1.length c,.int .i64 z.2.dc,.int .i64 z.2.n,.string z.2.s,.int .i64 z.2.v] e)) (W.alloc (.cells #[.slice A z.1.length c,.int .i64 z.2.dc,.int .i64 z.2.n,.string z.2.s,.int .i64 z.2.v] e)).heap.size 5 (LfA (W.alloc (.cells #[.slice A z.1.length c,.int .i64 z.2.dc,.int .i64 z.2.n,.string z.2.s,.int .i64 z.2.v] e)) (fun b=>b<n/\b<(W.alloc (.cells #[.slice A z.1.length c,.int .i64 z.2.dc,.int .i64 z.2.n,.string z.2.s,.int .i64 z.2.v] e)).heap.size/\v.ownBlock≠some b)) (.slice (some ⟨W.heap.size,0,none⟩) 1 1) [z]:=
 SlP.oneB (x:=z) (cs:=[.slice A z.1.length c,.int .i64 z.2.dc,.int .i64 z.2.n,.string z.2.s,.int .i64 z.2.v]) ⟨A,c,rfl,hp.up (fun b hb=>Qg (Nat.lt_of_lt_of_le hb hn)) (fun b hb=>⟨hb,by simp;omega,fun e=>by have:=hv b e;omega⟩) fun _ _ _ h=>h,hk⟩ rfl e rfl (by simp)
theorem qZe {l:List Lf}{k:Nat}{x:Lf}(h:l[k]?=some x)(f:Lf->List Lf):(l.take (k+1)).flatMap f=(l.take k).flatMap f++f x:=by
 rw[List.take_add_one,h,List.flatMap_append];simp
theorem YP (f:Lf->List Lf)(hf:∀ x,(f x).length<=1):∀ l:List Lf,(l.flatMap f).length<=l.length
 |[]=>by simp
 |x :: l=>by
  have h1:=hf x
  have h2:=YP f hf l
  rw[List.flatMap_cons,List.length_append,List.length_cons];omega
theorem Xl (ca cb:List Sp)(a b:Tr)(va ka vb kb vca vcb:Value)(w:World)(ha:a.rd w w.heap.size va ka)(hb:b.rd w w.heap.size vb kb)(hca:SlP w w.heap.size 3 SpE vca ca)(hcb:SlP w w.heap.size 3 SpE vcb cb)(hza:a.sz<=4000)(hzb:b.sz<=4000)(hra:SpsOk ca)(hrb:SpsOk cb)(hN1:ca.length<=20000)(hN2:cb.length<=20000) :
  Calls Tryz.prog 63 #[.agg #[va,ka,vca],.agg #[vb,kb,vcb]] w (RetC w (Qz (r9L (a.lvs []) (b.lvs []) ca cb)) (ctxBy ca cb 0)):=by
 have HA:=hid ha
 have HB:=hid hb
 have HCA:Hid (∀ w',Below w.heap.size w w'->SlP w' w'.heap.size 3 SpE vca ca):=fun w' hb=>hca.imp hb hb.size fun _ _ _ h=>h
 have HCB:Hid (∀ w',Below w.heap.size w w'->SlP w' w'.heap.size 3 SpE vcb cb):=fun w' hb=>hcb.imp hb hb.size fun _ _ _ h=>h
 have HR1:=hid hra
 have HR2:=hid hrb
 have hul:=Zm ca cb 0 4
 have HUL:Hid ((ctxBy ca cb 0).length<=Big):=by unfold Hid ctxBy Big;omega
 have hlp:=lvs_len a []
 have hlq:=lvs_len b []
 obtain⟨A1,n1,A2,n2,rfl,rfl⟩:=Qk ha
 obtain⟨A3,n3,A4,n4,rfl,rfl⟩:=Qk hb
 obtain⟨A5,n5,rfl,_⟩:=hca
 obtain⟨A6,n6,rfl,_⟩:=hcb
 have HX:Hid (∀ W,Below (w.heap.size+3) (((w.alloc (.cells #[.slice A1 a.es.length n1,.slice A2 a.ks.length n2,.slice A5 ca.length n5] 29)).alloc (.cells #[.slice A3 b.es.length n3,.slice A4 b.ks.length n4,.slice A6 cb.length n6] 29)).alloc (.cells #[.slice none 0 0,.slice none 0 0,.slice none 0 0] 29)) W->Below w.heap.size w W/\W.heap[w.heap.size+2]?=some (.cells #[.slice none 0 0,.slice none 0 0,.slice none 0 0] 29 (0,0))/\w.heap.size+3<=W.heap.size/\(W.cell? ⟨w.heap.size,0,none⟩=some (.slice A1 a.es.length n1)/\W.cell? ⟨w.heap.size,1,none⟩=some (.slice A2 a.ks.length n2)/\W.cell? ⟨w.heap.size,2,none⟩=some (.slice A5 ca.length n5)/\W.cell? ⟨w.heap.size+1,0,none⟩=some (.slice A3 b.es.length n3)/\W.cell? ⟨w.heap.size+1,1,none⟩=some (.slice A4 b.ks.length n4)/\W.cell? ⟨w.heap.size+1,2,none⟩=some (.slice A6 cb.length n6))):=fun W hW=>by
  have g0:W.heap[w.heap.size]?=some (.cells #[.slice A1 a.es.length n1,.slice A2 a.ks.length n2,.slice A5 ca.length n5] 29 (0,0)):=(hW.block _ (by omega)).trans ((Qg (by simp<;>omega)).trans ((Qg (by simp)).trans (Qd rfl)))
  have g1:W.heap[w.heap.size+1]?=some (.cells #[.slice A3 b.es.length n3,.slice A4 b.ks.length n4,.slice A6 cb.length n6] 29 (0,0)):=(hW.block _ (by omega)).trans ((Qg (by simp)).trans (Qd (by simp)))
  have g2:W.heap[w.heap.size+2]?=some (.cells #[.slice none 0 0,.slice none 0 0,.slice none 0 0] 29 (0,0)):=(hW.block _ (by omega)).trans (Qd (by simp))
  exact⟨((((Below.refl _ w).alloc (Nat.le_refl _) _).alloc (by simp) _).alloc (by simp;omega) _).trans (hW.mono (by omega)),g2,by have:=hW.size;simpa using this,Qa (i:=0) g0,Qa (i:=1) g0,Qa (i:=2) g0,Qa (i:=0) g1,Qa (i:=1) g1,Qa (i:=2) g1⟩
 have hneA:w.heap.size+1+1≠w.heap.size:=by omega
 have hneB:w.heap.size≠w.heap.size+1+1:=by omega
 clear ha hb
 go_enter Tryz.func63,Tryz.ntmps63
 obtain⟨p0,p1,p2,p3,p4,p5⟩:=(HX.out _ (Below.refl _ _)).2.2.2
 go_upto_region 1 with (fail)
 go_region_held3 (fun w'=>w'.cell? ⟨w.heap.size,0,none⟩=some (.slice A1 a.es.length n1)/\w'.cell? ⟨w.heap.size,1,none⟩=some (.slice A2 a.ks.length n2)/\w'.cell? ⟨w.heap.size+1,0,none⟩=some (.slice A3 b.es.length n3)/\w'.cell? ⟨w.heap.size+1,1,none⟩=some (.slice A4 b.ks.length n4))
  (go_keep)
  (first
      |(have hq:=hbk1;go_at_call 41;go_loud ((refine (ZH b _ _ _ (Qi (HX.out _ hbk1.out).1 (HX.out _ hbk1.out).1.size _ _ _ HB.out) (by omega)).mono ?_);rintro e w2 ⟨v2,rfl,ho2,hb2⟩;obtain⟨Aq,cq,hv2⟩:=OwnP.shape ho2;subst hv2;have HOQ:=hid ho2;have HB2:=hid hb2;have hbk2:=hid (hbk1.out.trans (hb2.mono (HX.out _ hbk1.out).2.2.1));obtain⟨q0,q1,q2,q3,q4,q5⟩:=(HX.out _ hbk2.out).2.2.2;clear ho2 hb2))
      |(go_at_call 41;go_loud ((refine (ZH a _ _ _ (Qi (HX.out _ (by go_grown)).1 (HX.out _ (by go_grown)).1.size _ _ _ HA.out) (by omega)).mono ?_);rintro e w1 ⟨v1,rfl,ho1,hb1⟩;obtain⟨Ap,cp,hv1⟩:=OwnP.shape ho1;subst hv1;have HOP:=hid ho1;have hbk1:Hid (Below (w.heap.size+3) (((w.alloc (.cells #[.slice A1 a.es.length n1,.slice A2 a.ks.length n2,.slice A5 ca.length n5] 29)).alloc (.cells #[.slice A3 b.es.length n3,.slice A4 b.ks.length n4,.slice A6 cb.length n6] 29)).alloc (.cells #[.slice none 0 0,.slice none 0 0,.slice none 0 0] 29)) w1):=(Below.trans (by go_grown) (hb1.mono (by simp)));obtain⟨q0,q1,q2,q3,q4,q5⟩:=(HX.out _ hbk1.out).2.2.2;clear ho1 hb1)))
 have hs2:=(HX.out _ hbk2.out).2.2.1
 have HP:Hid (SlP w2 w2.heap.size 5 (LfA w2 (fun b=>b<w2.heap.size)) (.slice Ap (a.lvs []).length cp) (a.lvs [])):=slLf (HOP.out.sl LfA.mon (by unfold Big;omega)) HB2.out (fun b hb=>hb.2) (fun b hb=>Nat.lt_of_lt_of_le hb.2 HB2.out.size)
 have HQ:Hid (SlP w2 w2.heap.size 5 (LfA w2 (fun b=>b<w2.heap.size)) (.slice Aq (b.lvs []).length cq) (b.lvs [])):=slLf (HOQ.out.sl LfA.mon (by unfold Big;omega)) (Below.refl _ _) (fun b hb=>hb.2) (fun b hb=>hb.2)
 have hR9:r9L (a.lvs []) (b.lvs []) ca cb=(a.lvs []).flatMap (outP (b.lvs []) cb)++(b.lvs []).flatMap (outQ (a.lvs []) ca):=rfl
 have HR9:=hid hR9
 clear hR9 HOP HOQ HB2 q0 q1 q2 q3 q4 q5 p0 p1 p2 p3 p4 p5
 generalize a.lvs []=P at *
 generalize b.lvs []=Q at *
 go_wp2_with fail
 go_loopw [7,22] (fun v i wr=>∃ k:Nat,k<=P.length/\i=.int .i64 k/\OwnD wr w2.heap.size 91 5 LfA (fun b=>b<w2.heap.size) v ((P.take k).flatMap (outP Q cb))/\Below w2.heap.size w2 wr) (fun _ i _=>P.length-(intOf i).toNat)
 case atStart=>exact⟨0,Nat.zero_le _,rfl,OwnD.nil,Below.refl _ _⟩
 case round=>
  obtain⟨k,hk,rfl,hown,hb⟩:=hrel
  have hsz:=hb.size
  by_cases hlt:k<P.length
  ·obtain⟨⟨p,x⟩,hx⟩:∃ x,P[k]?=some x:=⟨_,List.getElem?_eq_getElem hlt⟩
   obtain⟨A,m,hv,c1,c2,c3⟩:=id HP.out
   cases hv
   obtain⟨bp,op,rfl,hbB,hc⟩:=c3 (by rintro rfl;simp at hlt)
   obtain⟨cs,⟨A7,c7,rfl,hp,hok⟩,_,hu⟩:=hc k _ hx
   have HE:Hid (∀ W,Below w2.heap.size w2 W->(W.cell? ⟨bp,op+k*5,none⟩=some (.slice A7 p.length c7)/\W.cell? ⟨bp,op+k*5+1,none⟩=some (.int .i64 x.dc)/\W.cell? ⟨bp,op+k*5+2,none⟩=some (.int .i64 x.n)/\W.cell? ⟨bp,op+k*5+3,none⟩=some (.string x.s)/\W.cell? ⟨bp,op+k*5+4,none⟩=some (.int .i64 x.v))/\SlA W (fun b=>b<w2.heap.size) 1 StE (.slice A7 p.length c7) p/\W.cell? ⟨w.heap.size+1,2,none⟩=some (.slice A6 cb.length n6)/\Below w.heap.size w W):=fun W hW=>
    ⟨⟨(hW.cell hbB).trans (hu 0 _ rfl),(hW.cell hbB).trans (hu 1 _ rfl),(hW.cell hbB).trans (hu 2 _ rfl),(hW.cell hbB).trans (hu 3 _ rfl),(hW.cell hbB).trans (hu 4 _ rfl)⟩,hp.up (fun b hb=>hW.block b hb) (fun _ h=>h) (fun _ _ _ h=>h),(HX.out W (hbk2.out.trans (hW.mono hs2))).2.2.2.2.2.2.2.2,(HX.out W (hbk2.out.trans (hW.mono hs2))).1⟩
   obtain⟨⟨e0,e1,e2,e3,e4⟩,hp',q5,hB⟩:=HE.out wr hb
   have HOK:=hid hok
   have HTK:=hid (qZe hx (outP Q cb))
   have hle:=YP (outP Q cb) (qYn Q cb) (P.take k)
   rw[List.length_take]at hle
   have HL:Hid (∀ z:Lf,((P.take k).flatMap (outP Q cb)).length + [z].length<=Few):=fun z=>by unfold Few;rw[List.length_singleton];omega
   generalize (P.take k).flatMap (outP Q cb)=js at *
   have HOP:Hid (outP Q cb (p,x)=outP Q cb (p,x)):=rfl
   have hov:=hown.lt
   clear hu hc c3 hx hok hp
   go_wp2_with fail
   refine (qJe (fun b=>b<w2.heap.size) Q (p,x) _ A7 c7 wr (fun b hb=>Nat.lt_of_lt_of_le hb hsz) (slLf HQ.out hb (fun _ h=>h) fun _ h=>h) (hp'.up (fun _ _=>rfl) (fun b hb=>Nat.lt_of_lt_of_le hb hsz) fun _ _ _ h=>h)).mono ?_
   cases hf:findL Q (p,x) with
   |none=>
    have hfz:fndZ Q (p,x)=lf0:=by unfold fndZ;rw[hf];rfl
    rw[hfz]
    rintro e w3 ⟨Az,cz,rfl,hz,hzok,hb3⟩
    have HF:=hid hf
    clear hfz hf hz hzok
    simp only[lf0,List.length_nil,Option.isSome_none]
    have hb3':Below w2.heap.size w2 w3:=hb.trans (hb3.mono hsz)
    have hs3:=hb3.size
    obtain⟨⟨f0,f1,f2,f3,f4⟩,hp3,q6,hB3⟩:=HE.out w3 hb3'
    have hown3:=hown.grow LfA.mon hb3
    have hbp3:bp<w3.heap.size:=by omega
    have hbn3:bp≠w3.heap.size:=by omega
    go_wp2_with fail
    go_quiet (fail)
    have hb4:Below w3.heap.size w3 ((w3.alloc (.cells #[.slice Az 0 cz,.int .i64 0,.int .i64 0,.string ByteArray.empty,.int .i64 0] 91)).drewN nq):=below_drewN ((Below.refl _ w3).alloc (Nat.le_refl _) _) nq
    have hg4:((w3.alloc (.cells #[.slice Az 0 cz,.int .i64 0,.int .i64 0,.string ByteArray.empty,.int .i64 0] 91)).drewN nq).heap[w3.heap.size]?=some (.cells #[.slice Az 0 cz,.int .i64 0,.int .i64 0,.string ByteArray.empty,.int .i64 0] 91):=by rw[World.heap_drewN];exact Qd rfl
    generalize ((w3.alloc (.cells #[.slice Az 0 cz,.int .i64 0,.int .i64 0,.string ByteArray.empty,.int .i64 0] 91)).drewN nq)=w4 at *
    have hb4':Below w2.heap.size w2 w4:=hb3'.trans (hb4.mono (by omega))
    have hown4:=hown3.grow LfA.mon hb4
    have hs4:w3.heap.size<w4.heap.size:=lt_of_block hg4
    have b0:=Qa (i:=0) hg4
    have b1:=Qa (i:=1) hg4
    have b2:=Qa (i:=2) hg4
    have b3:=Qa (i:=3) hg4
    have b4:=Qa (i:=4) hg4
    simp only[List.getElem?_toArray,List.getElem?_cons_zero,List.getElem?_cons_succ]at b0 b1 b2 b3 b4
    clear hown3 f0 f1 f2 f3 f4 e0 e1 e2 e3 e4 hg4 hbp3 hbn3
    obtain⟨⟨f0,f1,f2,f3,f4⟩,hp4,q8,hB4⟩:=HE.out w4 hb4'
    have hbp4:bp<w4.heap.size:=by omega
    have hbn4:bp≠w4.heap.size:=by omega
    cases hh:hasC cb x.dot
    ·have HH:=hid hh
     have HOY:Hid (outP Q cb (p,x)=[(p,x)]):=by unfold Hid outP;rw[HF.out];simp[hh]
     clear hh
     go_upto_region 9 with (fail)
     have f7:w4.cell? ⟨bp,op+k*5+1+1,none⟩=some (.int .i64 x.n):=f2
     go_region_held3 (fun W=>W.cell? ⟨w.heap.size+1,2,none⟩=some (.slice A6 cb.length n6)/\W.cell? ⟨bp,op+k*5+1,none⟩=some (.int .i64 x.dc)/\W.cell? ⟨bp,op+k*5+1+1,none⟩=some (.int .i64 x.n))
      (go_keep)
      (first|(go_at_call 60;go_loud ((refine (Zr cb x.dot _ _ (HCB.out _ (HE.out _ (hb4'.drew)).2.2.2) (by omega)).mono ?_);rw[HH.out];rintro e w6 ⟨rfl,hb6⟩;have hbW:Below w4.heap.size w4 w6:=(Below.refl _ w4).drew.trans (hb6.mono (by simp));have HBW:=hid hbW;obtain⟨⟨f0,f1,f2,f3,f4⟩,hpW,q9,hB6⟩:=HE.out w6 (hb4'.trans (hbW.mono (by omega)));have f7:w6.cell? ⟨bp,op+k*5+1+1,none⟩=some (.int .i64 x.n):=f2;have hs6:=hbW.size;have hbp6:bp<w6.heap.size:=(by omega);have hbn6:bp≠w6.heap.size:=(by omega))))
     have hzW:=HOK.out
     go_wp2_with (at_builtin;go_loud ((refine Zw (v:=u7) rfl (.tmp 88) (.tmp 93) _ rfl LfA.mon YC (by decide) (by decide) rfl ((hown4.grow LfA.mon hbW).grow LfA.mon ((Below.refl _ w6).alloc (Nat.le_refl _) (.cells #[.slice A7 (p).length c7,.int .i64 (x).dc,.int .i64 (x).n,.string (x).s,.int .i64 (x).v] 91))) rfl (KD (z:=(p,x)) _ hpW hzW (fun g h=>(hov g h).1) (by omega)) (HL.out (p,x)) (by simp;omega) ?_);intro v1 w7 hown7 hb7 _ _))
     go_roundw
     case rel=>exact⟨k+1,by omega,by go_num,by rw[HTK.out,HOY.out];exact hown7,((hb4'.trans (hbW.mono (by omega))).alloc (by omega) _).trans hb7⟩
     case measure=>simp[intOf];omega
    ·have HH:=hid hh
     have HOY:Hid (outP Q cb (p,x)=[]):=by unfold Hid outP;rw[HF.out];simp[hh]
     clear hh
     go_upto_region 9 with (fail)
     have f7:w4.cell? ⟨bp,op+k*5+1+1,none⟩=some (.int .i64 x.n):=f2
     go_region_held3 (fun W=>W.cell? ⟨w.heap.size+1,2,none⟩=some (.slice A6 cb.length n6)/\W.cell? ⟨bp,op+k*5+1,none⟩=some (.int .i64 x.dc)/\W.cell? ⟨bp,op+k*5+1+1,none⟩=some (.int .i64 x.n))
      (go_keep)
      (first|(go_at_call 60;go_loud ((refine (Zr cb x.dot _ _ (HCB.out _ (HE.out _ (hb4'.drew)).2.2.2) (by omega)).mono ?_);rw[HH.out];rintro e w6 ⟨rfl,hb6⟩;have hbW:Below w4.heap.size w4 w6:=(Below.refl _ w4).drew.trans (hb6.mono (by simp));have HBW:=hid hbW;obtain⟨⟨f0,f1,f2,f3,f4⟩,hpW,q9,hB6⟩:=HE.out w6 (hb4'.trans (hbW.mono (by omega)));have f7:w6.cell? ⟨bp,op+k*5+1+1,none⟩=some (.int .i64 x.n):=f2;have hs6:=hbW.size;have hbp6:bp<w6.heap.size:=(by omega);have hbn6:bp≠w6.heap.size:=(by omega))))
     go_wp2_with fail
     go_roundw
     case rel=>exact⟨k+1,by omega,by go_num,by rw[HTK.out,HOY.out,List.append_nil];exact hown4.grow LfA.mon hbW,hb4'.trans (hbW.mono (by omega))⟩
     case measure=>simp[intOf];omega
   |some y=>
    obtain⟨pz,z⟩:=y
    have hfz:fndZ Q (p,x)=(pz,z):=by unfold fndZ;rw[hf];rfl
    rw[hfz]
    rintro e w3 ⟨Az,cz,rfl,hz,hzok,hb3⟩
    have HF:=hid hf
    clear hfz hf
    simp only[Option.isSome_some]at hz hzok ⊢
    have hb3':Below w2.heap.size w2 w3:=hb.trans (hb3.mono hsz)
    have hs3:=hb3.size
    obtain⟨⟨f0,f1,f2,f3,f4⟩,hp3,q6,hB3⟩:=HE.out w3 hb3'
    have hown3:=hown.grow LfA.mon hb3
    have hbp3:bp<w3.heap.size:=by omega
    have hbn3:bp≠w3.heap.size:=by omega
    have f5:w3.cell? ⟨bp,op+k*5+1+3,none⟩=some (.int .i64 x.v):=f4
    have f6:w3.cell? ⟨bp,op+k*5+1+2,none⟩=some (.string x.s):=f3
    have HZ:=hid hz
    have HZO:=hid hzok
    clear hz hzok
    cases hg1:decide (x.v<z.v)
    ·cases hg2:decide (z.v=x.v)
     ·have hg3:(z.v==x.v)=false:=by simpa using hg2
      have HOY:Hid (outP Q cb (p,x)=[(p,x)]):=by unfold Hid outP;rw[HF.out];simp[gtE,hg1,hg2]
      go_wp2_with fail
      go_quiet (fail)
      clear hg1 hg2 hg3
      have hb4:Below w3.heap.size w3 ((w3.alloc (.cells #[.slice Az pz.length cz,.int .i64 z.dc,.int .i64 z.n,.string z.s,.int .i64 z.v] 91)).drewN nq):=below_drewN ((Below.refl _ w3).alloc (Nat.le_refl _) _) nq
      have hg4:((w3.alloc (.cells #[.slice Az pz.length cz,.int .i64 z.dc,.int .i64 z.n,.string z.s,.int .i64 z.v] 91)).drewN nq).heap[w3.heap.size]?=some (.cells #[.slice Az pz.length cz,.int .i64 z.dc,.int .i64 z.n,.string z.s,.int .i64 z.v] 91):=by rw[World.heap_drewN];exact Qd rfl
      generalize ((w3.alloc (.cells #[.slice Az pz.length cz,.int .i64 z.dc,.int .i64 z.n,.string z.s,.int .i64 z.v] 91)).drewN nq)=w4 at *
      have hb4':Below w2.heap.size w2 w4:=hb3'.trans (hb4.mono (by omega))
      have hown4:=hown3.grow LfA.mon hb4
      have hs4:w3.heap.size<w4.heap.size:=lt_of_block hg4
      have b0:=Qa (i:=0) hg4
      have b1:=Qa (i:=1) hg4
      have b2:=Qa (i:=2) hg4
      have b3:=Qa (i:=3) hg4
      have b4:=Qa (i:=4) hg4
      simp only[List.getElem?_toArray,List.getElem?_cons_zero,List.getElem?_cons_succ]at b0 b1 b2 b3 b4
      clear hown3 f0 f1 f2 f3 f4 e0 e1 e2 e3 e4 hg4 hbp3 hbn3
      obtain⟨⟨f0,f1,f2,f3,f4⟩,hp4,q8,hB4⟩:=HE.out w4 hb4'
      have hbp4:bp<w4.heap.size:=by omega
      have hbn4:bp≠w4.heap.size:=by omega
      go_wp2_with fail
      go_quiet (fail)
      have hbW:Below w4.heap.size w4 (w4.drewN nq):=below_drewN (Below.refl _ _) nq
      generalize w4.drewN nq=w6 at *
      have hs6:=hbW.size
      have hb6':Below w2.heap.size w2 w6:=hb4'.trans (hbW.mono (by omega))
      clear f0 f1 f2 f3 f4
      obtain⟨⟨f0,f1,f2,f3,f4⟩,hpW,q9,hB6⟩:=HE.out w6 hb6'
      have hbp6:bp<w6.heap.size:=by omega
      have hbn6:bp≠w6.heap.size:=by omega
      have hzW:=HOK.out
      go_wp2_with (at_builtin;go_loud ((refine Zw (v:=u7) rfl (.tmp 88) (.tmp 93) _ rfl LfA.mon YC (by decide) (by decide) rfl ((hown4.grow LfA.mon hbW).grow LfA.mon ((Below.refl _ w6).alloc (Nat.le_refl _) (.cells #[.slice A7 (p).length c7,.int .i64 (x).dc,.int .i64 (x).n,.string (x).s,.int .i64 (x).v] 91))) rfl (KD (z:=(p,x)) _ hpW hzW (fun g h=>(hov g h).1) (by omega)) (HL.out (p,x)) (by simp;omega) ?_);intro v1 w7 hown7 hb7 _ _))
      go_roundw
      case rel=>exact⟨k+1,by omega,by go_num,by rw[HTK.out,HOY.out];exact hown7,((hb4'.trans (hbW.mono (by omega))).alloc (by omega) _).trans hb7⟩
      case measure=>simp[intOf];omega
     ·have hg3:(z.v==x.v)=true:=by simpa using hg2
      have hlt2:=qK1 x.s z.s
      cases hg4:Op.bytesLess z.s.toList x.s.toList
      ·cases hg5:(z.s.toList==x.s.toList)
       ·have HOY:Hid (outP Q cb (p,x)=[(pz,z)]):=by unfold Hid outP;rw[HF.out];simp[gtE,hg1,hg2,hlt2,hg4,hg5]
        go_wp2_with fail
        go_quiet (fail)
        clear hg1 hg2 hg3 hg4 hg5 hlt2
        have hb4:Below w3.heap.size w3 ((w3.alloc (.cells #[.slice Az pz.length cz,.int .i64 z.dc,.int .i64 z.n,.string z.s,.int .i64 z.v] 91)).drewN nq):=below_drewN ((Below.refl _ w3).alloc (Nat.le_refl _) _) nq
        have hg4:((w3.alloc (.cells #[.slice Az pz.length cz,.int .i64 z.dc,.int .i64 z.n,.string z.s,.int .i64 z.v] 91)).drewN nq).heap[w3.heap.size]?=some (.cells #[.slice Az pz.length cz,.int .i64 z.dc,.int .i64 z.n,.string z.s,.int .i64 z.v] 91):=by rw[World.heap_drewN];exact Qd rfl
        generalize ((w3.alloc (.cells #[.slice Az pz.length cz,.int .i64 z.dc,.int .i64 z.n,.string z.s,.int .i64 z.v] 91)).drewN nq)=w4 at *
        have hb4':Below w2.heap.size w2 w4:=hb3'.trans (hb4.mono (by omega))
        have hown4:=hown3.grow LfA.mon hb4
        have hs4:w3.heap.size<w4.heap.size:=lt_of_block hg4
        have b0:=Qa (i:=0) hg4
        have b1:=Qa (i:=1) hg4
        have b2:=Qa (i:=2) hg4
        have b3:=Qa (i:=3) hg4
        have b4:=Qa (i:=4) hg4
        simp only[List.getElem?_toArray,List.getElem?_cons_zero,List.getElem?_cons_succ]at b0 b1 b2 b3 b4
        clear hown3 f0 f1 f2 f3 f4 e0 e1 e2 e3 e4 hg4 hbp3 hbn3
        obtain⟨⟨f0,f1,f2,f3,f4⟩,hp4,q8,hB4⟩:=HE.out w4 hb4'
        have hbp4:bp<w4.heap.size:=by omega
        have hbn4:bp≠w4.heap.size:=by omega
        have hbW:Below w4.heap.size w4 w4:=Below.refl _ _
        have hpW:SlA w4 (fun b=>b<w2.heap.size) 1 StE (.slice Az pz.length cz) pz:=HZ.out.up (fun b hb=>(hb4.block b (by omega)).trans (hb3.block b (by omega))) (fun _ h=>h) (fun _ _ _ h=>h)
        have hzW:=HZO.out
        go_wp2_with (at_builtin;go_loud ((refine Zw (v:=u7) rfl (.tmp 71) (.tmp 73) _ rfl LfA.mon YC (by decide) (by decide) rfl ((hown4.grow LfA.mon hbW).grow LfA.mon ((Below.refl _ w4).alloc (Nat.le_refl _) (.cells #[.slice Az (pz).length cz,.int .i64 (z).dc,.int .i64 (z).n,.string (z).s,.int .i64 (z).v] 91))) rfl (KD (z:=(pz,z)) _ hpW hzW (fun g h=>(hov g h).1) (by omega)) (HL.out (pz,z)) (by simp;omega) ?_);intro v1 w7 hown7 hb7 _ _))
        go_roundw
        case rel=>exact⟨k+1,by omega,by go_num,by rw[HTK.out,HOY.out];exact hown7,((hb4'.trans (hbW.mono (by omega))).alloc (by omega) _).trans hb7⟩
        case measure=>simp[intOf];omega
       ·have HOY:Hid (outP Q cb (p,x)=[(p,x)]):=by unfold Hid outP;rw[HF.out];simp[gtE,hg1,hg2,hlt2,hg4,hg5]
        go_wp2_with fail
        go_quiet (fail)
        clear hg1 hg2 hg3 hg4 hg5 hlt2
        have hb4:Below w3.heap.size w3 ((w3.alloc (.cells #[.slice Az pz.length cz,.int .i64 z.dc,.int .i64 z.n,.string z.s,.int .i64 z.v] 91)).drewN nq):=below_drewN ((Below.refl _ w3).alloc (Nat.le_refl _) _) nq
        have hg4:((w3.alloc (.cells #[.slice Az pz.length cz,.int .i64 z.dc,.int .i64 z.n,.string z.s,.int .i64 z.v] 91)).drewN nq).heap[w3.heap.size]?=some (.cells #[.slice Az pz.length cz,.int .i64 z.dc,.int .i64 z.n,.string z.s,.int .i64 z.v] 91):=by rw[World.heap_drewN];exact Qd rfl
        generalize ((w3.alloc (.cells #[.slice Az pz.length cz,.int .i64 z.dc,.int .i64 z.n,.string z.s,.int .i64 z.v] 91)).drewN nq)=w4 at *
        have hb4':Below w2.heap.size w2 w4:=hb3'.trans (hb4.mono (by omega))
        have hown4:=hown3.grow LfA.mon hb4
        have hs4:w3.heap.size<w4.heap.size:=lt_of_block hg4
        have b0:=Qa (i:=0) hg4
        have b1:=Qa (i:=1) hg4
        have b2:=Qa (i:=2) hg4
        have b3:=Qa (i:=3) hg4
        have b4:=Qa (i:=4) hg4
        simp only[List.getElem?_toArray,List.getElem?_cons_zero,List.getElem?_cons_succ]at b0 b1 b2 b3 b4
        clear hown3 f0 f1 f2 f3 f4 e0 e1 e2 e3 e4 hg4 hbp3 hbn3
        obtain⟨⟨f0,f1,f2,f3,f4⟩,hp4,q8,hB4⟩:=HE.out w4 hb4'
        have hbp4:bp<w4.heap.size:=by omega
        have hbn4:bp≠w4.heap.size:=by omega
        go_wp2_with fail
        go_quiet (fail)
        have hbW:Below w4.heap.size w4 (w4.drewN nq):=below_drewN (Below.refl _ _) nq
        generalize w4.drewN nq=w6 at *
        have hs6:=hbW.size
        have hb6':Below w2.heap.size w2 w6:=hb4'.trans (hbW.mono (by omega))
        clear f0 f1 f2 f3 f4
        obtain⟨⟨f0,f1,f2,f3,f4⟩,hpW,q9,hB6⟩:=HE.out w6 hb6'
        have hbp6:bp<w6.heap.size:=by omega
        have hbn6:bp≠w6.heap.size:=by omega
        have hzW:=HOK.out
        go_wp2_with (at_builtin;go_loud ((refine Zw (v:=u7) rfl (.tmp 88) (.tmp 93) _ rfl LfA.mon YC (by decide) (by decide) rfl ((hown4.grow LfA.mon hbW).grow LfA.mon ((Below.refl _ w6).alloc (Nat.le_refl _) (.cells #[.slice A7 (p).length c7,.int .i64 (x).dc,.int .i64 (x).n,.string (x).s,.int .i64 (x).v] 91))) rfl (KD (z:=(p,x)) _ hpW hzW (fun g h=>(hov g h).1) (by omega)) (HL.out (p,x)) (by simp;omega) ?_);intro v1 w7 hown7 hb7 _ _))
        go_roundw
        case rel=>exact⟨k+1,by omega,by go_num,by rw[HTK.out,HOY.out];exact hown7,((hb4'.trans (hbW.mono (by omega))).alloc (by omega) _).trans hb7⟩
        case measure=>simp[intOf];omega
      ·have HOY:Hid (outP Q cb (p,x)=[(p,x)]):=by unfold Hid outP;rw[HF.out];simp[gtE,hg1,hg2,hlt2,hg4]
       go_wp2_with fail
       go_quiet (fail)
       clear hg1 hg2 hg3 hg4 hlt2
       have hb4:Below w3.heap.size w3 ((w3.alloc (.cells #[.slice Az pz.length cz,.int .i64 z.dc,.int .i64 z.n,.string z.s,.int .i64 z.v] 91)).drewN nq):=below_drewN ((Below.refl _ w3).alloc (Nat.le_refl _) _) nq
       have hg4:((w3.alloc (.cells #[.slice Az pz.length cz,.int .i64 z.dc,.int .i64 z.n,.string z.s,.int .i64 z.v] 91)).drewN nq).heap[w3.heap.size]?=some (.cells #[.slice Az pz.length cz,.int .i64 z.dc,.int .i64 z.n,.string z.s,.int .i64 z.v] 91):=by rw[World.heap_drewN];exact Qd rfl
       generalize ((w3.alloc (.cells #[.slice Az pz.length cz,.int .i64 z.dc,.int .i64 z.n,.string z.s,.int .i64 z.v] 91)).drewN nq)=w4 at *
       have hb4':Below w2.heap.size w2 w4:=hb3'.trans (hb4.mono (by omega))
       have hown4:=hown3.grow LfA.mon hb4
       have hs4:w3.heap.size<w4.heap.size:=lt_of_block hg4
       have b0:=Qa (i:=0) hg4
       have b1:=Qa (i:=1) hg4
       have b2:=Qa (i:=2) hg4
       have b3:=Qa (i:=3) hg4
       have b4:=Qa (i:=4) hg4
       simp only[List.getElem?_toArray,List.getElem?_cons_zero,List.getElem?_cons_succ]at b0 b1 b2 b3 b4
       clear hown3 f0 f1 f2 f3 f4 e0 e1 e2 e3 e4 hg4 hbp3 hbn3
       obtain⟨⟨f0,f1,f2,f3,f4⟩,hp4,q8,hB4⟩:=HE.out w4 hb4'
       have hbp4:bp<w4.heap.size:=by omega
       have hbn4:bp≠w4.heap.size:=by omega
       go_wp2_with fail
       go_quiet (fail)
       have hbW:Below w4.heap.size w4 (w4.drewN nq):=below_drewN (Below.refl _ _) nq
       generalize w4.drewN nq=w6 at *
       have hs6:=hbW.size
       have hb6':Below w2.heap.size w2 w6:=hb4'.trans (hbW.mono (by omega))
       clear f0 f1 f2 f3 f4
       obtain⟨⟨f0,f1,f2,f3,f4⟩,hpW,q9,hB6⟩:=HE.out w6 hb6'
       have hbp6:bp<w6.heap.size:=by omega
       have hbn6:bp≠w6.heap.size:=by omega
       have hzW:=HOK.out
       go_wp2_with (at_builtin;go_loud ((refine Zw (v:=u7) rfl (.tmp 88) (.tmp 93) _ rfl LfA.mon YC (by decide) (by decide) rfl ((hown4.grow LfA.mon hbW).grow LfA.mon ((Below.refl _ w6).alloc (Nat.le_refl _) (.cells #[.slice A7 (p).length c7,.int .i64 (x).dc,.int .i64 (x).n,.string (x).s,.int .i64 (x).v] 91))) rfl (KD (z:=(p,x)) _ hpW hzW (fun g h=>(hov g h).1) (by omega)) (HL.out (p,x)) (by simp;omega) ?_);intro v1 w7 hown7 hb7 _ _))
       go_roundw
       case rel=>exact⟨k+1,by omega,by go_num,by rw[HTK.out,HOY.out];exact hown7,((hb4'.trans (hbW.mono (by omega))).alloc (by omega) _).trans hb7⟩
       case measure=>simp[intOf];omega
    ·have HOY:Hid (outP Q cb (p,x)=[(pz,z)]):=by unfold Hid outP;rw[HF.out];simp[gtE,hg1]
     go_wp2_with fail
     go_quiet (fail)
     clear hg1
     have hb4:Below w3.heap.size w3 ((w3.alloc (.cells #[.slice Az pz.length cz,.int .i64 z.dc,.int .i64 z.n,.string z.s,.int .i64 z.v] 91)).drewN nq):=below_drewN ((Below.refl _ w3).alloc (Nat.le_refl _) _) nq
     have hg4:((w3.alloc (.cells #[.slice Az pz.length cz,.int .i64 z.dc,.int .i64 z.n,.string z.s,.int .i64 z.v] 91)).drewN nq).heap[w3.heap.size]?=some (.cells #[.slice Az pz.length cz,.int .i64 z.dc,.int .i64 z.n,.string z.s,.int .i64 z.v] 91):=by rw[World.heap_drewN];exact Qd rfl
     generalize ((w3.alloc (.cells #[.slice Az pz.length cz,.int .i64 z.dc,.int .i64 z.n,.string z.s,.int .i64 z.v] 91)).drewN nq)=w4 at *
     have hb4':Below w2.heap.size w2 w4:=hb3'.trans (hb4.mono (by omega))
     have hown4:=hown3.grow LfA.mon hb4
     have hs4:w3.heap.size<w4.heap.size:=lt_of_block hg4
     have b0:=Qa (i:=0) hg4
     have b1:=Qa (i:=1) hg4
     have b2:=Qa (i:=2) hg4
     have b3:=Qa (i:=3) hg4
     have b4:=Qa (i:=4) hg4
     simp only[List.getElem?_toArray,List.getElem?_cons_zero,List.getElem?_cons_succ]at b0 b1 b2 b3 b4
     clear hown3 f0 f1 f2 f3 f4 e0 e1 e2 e3 e4 hg4 hbp3 hbn3
     obtain⟨⟨f0,f1,f2,f3,f4⟩,hp4,q8,hB4⟩:=HE.out w4 hb4'
     have hbp4:bp<w4.heap.size:=by omega
     have hbn4:bp≠w4.heap.size:=by omega
     have hbW:Below w4.heap.size w4 w4:=Below.refl _ _
     have hpW:SlA w4 (fun b=>b<w2.heap.size) 1 StE (.slice Az pz.length cz) pz:=HZ.out.up (fun b hb=>(hb4.block b (by omega)).trans (hb3.block b (by omega))) (fun _ h=>h) (fun _ _ _ h=>h)
     have hzW:=HZO.out
     go_wp2_with (at_builtin;go_loud ((refine Zw (v:=u7) rfl (.tmp 71) (.tmp 73) _ rfl LfA.mon YC (by decide) (by decide) rfl ((hown4.grow LfA.mon hbW).grow LfA.mon ((Below.refl _ w4).alloc (Nat.le_refl _) (.cells #[.slice Az (pz).length cz,.int .i64 (z).dc,.int .i64 (z).n,.string (z).s,.int .i64 (z).v] 91))) rfl (KD (z:=(pz,z)) _ hpW hzW (fun g h=>(hov g h).1) (by omega)) (HL.out (pz,z)) (by simp;omega) ?_);intro v1 w7 hown7 hb7 _ _))
     go_roundw
     case rel=>exact⟨k+1,by omega,by go_num,by rw[HTK.out,HOY.out];exact hown7,((hb4'.trans (hbW.mono (by omega))).alloc (by omega) _).trans hb7⟩
     case measure=>simp[intOf];omega
  ·obtain rfl:k=P.length:=by omega
   rw[List.take_of_length_le (Nat.le_refl _)]at hown
   have hownP:=hid hown
   have hbP:=hid hb
   have hpl:=YP (outP Q cb) (qYn Q cb) P
   clear hown
   go_wp2_with fail
   clear hk hlt
   obtain⟨wo,hwo⟩:∃ z:World,z=wr:=⟨_,rfl⟩
   subst hwo
   go_loopw [7,98] (fun v i wr=>∃ k:Nat,k<=Q.length/\i=.int .i64 k/\OwnD wr w2.heap.size 91 5 LfA (fun b=>b<w2.heap.size) v (P.flatMap (outP Q cb)++(Q.take k).flatMap (outQ P ca))/\Below w2.heap.size w2 wr) (fun _ i _=>Q.length-(intOf i).toNat)
   case atStart=>exact⟨0,Nat.zero_le _,rfl,by simpa using hownP.out,hbP.out⟩
   case round=>
    obtain⟨k,hk,rfl,hown,hb⟩:=hrel
    have hsz:=hb.size
    by_cases hlt:k<Q.length
    ·obtain⟨⟨p,x⟩,hx⟩:∃ x,Q[k]?=some x:=⟨_,List.getElem?_eq_getElem hlt⟩
     obtain⟨A,m,hv,c1,c2,c3⟩:=id HQ.out
     cases hv
     obtain⟨bp,op,rfl,hbB,hc⟩:=c3 (by rintro rfl;simp at hlt)
     obtain⟨cs,⟨A7,c7,rfl,hp,hok⟩,_,hu⟩:=hc k _ hx
     have HE:Hid (∀ W,Below w2.heap.size w2 W->(W.cell? ⟨bp,op+k*5,none⟩=some (.slice A7 p.length c7)/\W.cell? ⟨bp,op+k*5+1,none⟩=some (.int .i64 x.dc)/\W.cell? ⟨bp,op+k*5+2,none⟩=some (.int .i64 x.n)/\W.cell? ⟨bp,op+k*5+3,none⟩=some (.string x.s)/\W.cell? ⟨bp,op+k*5+4,none⟩=some (.int .i64 x.v))/\SlA W (fun b=>b<w2.heap.size) 1 StE (.slice A7 p.length c7) p/\W.cell? ⟨w.heap.size,2,none⟩=some (.slice A5 ca.length n5)/\Below w.heap.size w W):=fun W hW=>
      ⟨⟨(hW.cell hbB).trans (hu 0 _ rfl),(hW.cell hbB).trans (hu 1 _ rfl),(hW.cell hbB).trans (hu 2 _ rfl),(hW.cell hbB).trans (hu 3 _ rfl),(hW.cell hbB).trans (hu 4 _ rfl)⟩,hp.up (fun b hb=>hW.block b hb) (fun _ h=>h) (fun _ _ _ h=>h),(HX.out W (hbk2.out.trans (hW.mono hs2))).2.2.2.2.2.1,(HX.out W (hbk2.out.trans (hW.mono hs2))).1⟩
     obtain⟨⟨e0,e1,e2,e3,e4⟩,hp',q5,hB⟩:=HE.out wr hb
     have HOK:=hid hok
     have HTK:=hid (qZe hx (outQ P ca))
     have hle:=YP (outQ P ca) (qYo P ca) (Q.take k)
     rw[List.length_take]at hle
     have HL:Hid (∀ z:Lf,(P.flatMap (outP Q cb)++(Q.take k).flatMap (outQ P ca)).length + [z].length<=Few):=fun z=>by unfold Few;rw[List.length_singleton,List.length_append];omega
     have HJS:Hid (∀ l:List Lf,P.flatMap (outP Q cb)++((Q.take k).flatMap (outQ P ca)++l)=(P.flatMap (outP Q cb)++(Q.take k).flatMap (outQ P ca))++l):=fun l=>(List.append_assoc _ _ _).symm
     generalize P.flatMap (outP Q cb)++(Q.take k).flatMap (outQ P ca)=js at *
     have hov:=hown.lt
     clear hu hc c3 hx hok hp
     go_wp2_with fail
     refine (qJe (fun b=>b<w2.heap.size) P (p,x) _ A7 c7 wr (fun b hb=>Nat.lt_of_lt_of_le hb hsz) (slLf HP.out hb (fun _ h=>h) fun _ h=>h) (hp'.up (fun _ _=>rfl) (fun b hb=>Nat.lt_of_lt_of_le hb hsz) fun _ _ _ h=>h)).mono ?_
     rintro e w3 ⟨Az,cz,rfl,hz,hzok,hb3⟩
     obtain⟨pz,z⟩:=fndZ P (p,x)
     simp only at hz hzok ⊢
     clear hz hzok
     have hb3':Below w2.heap.size w2 w3:=hb.trans (hb3.mono hsz)
     have hs3:=hb3.size
     obtain⟨⟨f0,f1,f2,f3,f4⟩,hp3,q6,hB3⟩:=HE.out w3 hb3'
     have hown3:=hown.grow LfA.mon hb3
     have hbp3:bp<w3.heap.size:=by omega
     have hbn3:bp≠w3.heap.size:=by omega
     have hq2:w.heap.size<w3.heap.size:=by have:=hB3.size;have:=(HX.out _ hbk2.out).2.2.1;omega
     have hq2':w.heap.size≠w3.heap.size:=by omega
     cases hf:findL P (p,x) with
     |none=>
      have HF:=hid hf
      clear hf
      simp only[Option.isSome_none]
      go_upto_region 16 with (fail)
      have hb4:Below w3.heap.size w3 (w3.alloc (.cells #[.slice Az pz.length cz,.int .i64 z.dc,.int .i64 z.n,.string z.s,.int .i64 z.v] 91)):=(Below.refl _ w3).alloc (Nat.le_refl _) _
      have hb4s:w3.heap.size<(w3.alloc (.cells #[.slice Az pz.length cz,.int .i64 z.dc,.int .i64 z.n,.string z.s,.int .i64 z.v] 91)).heap.size:=by simp
      generalize (w3.alloc (.cells #[.slice Az pz.length cz,.int .i64 z.dc,.int .i64 z.n,.string z.s,.int .i64 z.v] 91))=w4 at *
      have hb4':Below w2.heap.size w2 w4:=hb3'.trans (hb4.mono (by omega))
      have hown4:=hown3.grow LfA.mon hb4
      have hs4:w3.heap.size<w4.heap.size:=hb4s
      clear hown3 f0 f1 f2 f3 f4 e0 e1 e2 e3 e4 hbp3 hbn3
      obtain⟨⟨f0,f1,f2,f3,f4⟩,hp4,q8,hB4⟩:=HE.out w4 hb4'
      have hbp4:bp<w4.heap.size:=by omega
      have hbn4:bp≠w4.heap.size:=by omega
      cases hh:hasC ca x.dot
      ·have HH:=hid hh
       have HOY:Hid (outQ P ca (p,x)=[(p,x)]):=by unfold Hid outQ;rw[HF.out];simp[hh]
       clear hh
       have f7:w4.cell? ⟨bp,op+k*5+1+1,none⟩=some (.int .i64 x.n):=f2
       go_region_held3 (fun W=>W.cell? ⟨w.heap.size,2,none⟩=some (.slice A5 ca.length n5)/\W.cell? ⟨bp,op+k*5+1,none⟩=some (.int .i64 x.dc)/\W.cell? ⟨bp,op+k*5+1+1,none⟩=some (.int .i64 x.n))
        (go_keep)
        (first|(go_at_call 60;go_loud ((refine (Zr ca x.dot _ _ (HCA.out _ (HE.out _ (hb4'.drew)).2.2.2) (by omega)).mono ?_);rw[HH.out];rintro e w6 ⟨rfl,hb6⟩;have hbW:Below w4.heap.size w4 w6:=(Below.refl _ w4).drew.trans (hb6.mono (by simp));have HBW:=hid hbW;obtain⟨⟨f0,f1,f2,f3,f4⟩,hpW,q9,hB6⟩:=HE.out w6 (hb4'.trans (hbW.mono (by omega)));have f7:w6.cell? ⟨bp,op+k*5+1+1,none⟩=some (.int .i64 x.n):=f2;have hs6:=hbW.size;have hbp6:bp<w6.heap.size:=(by omega);have hbn6:bp≠w6.heap.size:=(by omega))))
       have hzW:=HOK.out
       go_wp2_with (at_builtin;go_loud ((refine Zw (v:=u7) rfl (.tmp 124) (.tmp 129) _ rfl LfA.mon YC (by decide) (by decide) rfl ((hown4.grow LfA.mon hbW).grow LfA.mon ((Below.refl _ w6).alloc (Nat.le_refl _) (.cells #[.slice A7 (p).length c7,.int .i64 (x).dc,.int .i64 (x).n,.string (x).s,.int .i64 (x).v] 91))) rfl (KD (z:=(p,x)) _ hpW hzW (fun g h=>(hov g h).1) (by omega)) (HL.out (p,x)) (by simp;omega) ?_);intro v1 w7 hown7 hb7 _ _))
       go_roundw
       case rel=>exact⟨k+1,by omega,by go_num,by rw[HTK.out,HOY.out,HJS.out];exact hown7,((hb4'.trans (hbW.mono (by omega))).alloc (by omega) _).trans hb7⟩
       case measure=>simp[intOf];omega
      ·have HH:=hid hh
       have HOY:Hid (outQ P ca (p,x)=[]):=by unfold Hid outQ;rw[HF.out];simp[hh]
       clear hh
       have f7:w4.cell? ⟨bp,op+k*5+1+1,none⟩=some (.int .i64 x.n):=f2
       go_region_held3 (fun W=>W.cell? ⟨w.heap.size,2,none⟩=some (.slice A5 ca.length n5)/\W.cell? ⟨bp,op+k*5+1,none⟩=some (.int .i64 x.dc)/\W.cell? ⟨bp,op+k*5+1+1,none⟩=some (.int .i64 x.n))
        (go_keep)
        (first|(go_at_call 60;go_loud ((refine (Zr ca x.dot _ _ (HCA.out _ (HE.out _ (hb4'.drew)).2.2.2) (by omega)).mono ?_);rw[HH.out];rintro e w6 ⟨rfl,hb6⟩;have hbW:Below w4.heap.size w4 w6:=(Below.refl _ w4).drew.trans (hb6.mono (by simp));have HBW:=hid hbW;obtain⟨⟨f0,f1,f2,f3,f4⟩,hpW,q9,hB6⟩:=HE.out w6 (hb4'.trans (hbW.mono (by omega)));have f7:w6.cell? ⟨bp,op+k*5+1+1,none⟩=some (.int .i64 x.n):=f2;have hs6:=hbW.size;have hbp6:bp<w6.heap.size:=(by omega);have hbn6:bp≠w6.heap.size:=(by omega))))
       go_wp2_with fail
       go_roundw
       case rel=>exact⟨k+1,by omega,by go_num,by rw[HTK.out,HOY.out,HJS.out,List.append_nil];exact hown4.grow LfA.mon hbW,hb4'.trans (hbW.mono (by omega))⟩
       case measure=>simp[intOf];omega
     |some y=>
      have HOY:Hid (outQ P ca (p,x)=[]):=by unfold Hid outQ;rw[hf]
      clear hf
      simp only[Option.isSome_some]
      go_wp2_with fail
      go_quiet (fail)
      go_wp2_with fail
      go_roundw
      case rel=>exact⟨k+1,by omega,by go_num,by rw[HTK.out,HOY.out,HJS.out,List.append_nil];exact hown3.grow LfA.mon (below_drewN ((Below.refl _ w3).alloc (Nat.le_refl _) _) nq),hb3'.trans ((below_drewN ((Below.refl _ w3).alloc (Nat.le_refl _) _) nq).mono (by omega))⟩
      case measure=>simp[intOf];omega
    ·obtain rfl:k=Q.length:=by omega
     rw[List.take_of_length_le (Nat.le_refl _)]at hown
     rw[←HR9.out]at hown
     have hqq:=YP (outQ P ca) (qYo P ca) Q
     have hln:(r9L P Q ca cb).length<=90000:=by rw[HR9.out,List.length_append];omega
     obtain⟨Ao,co,hvo⟩:=OwnP.shape hown
     subst hvo
     have HO:Hid (SlP wr wr.heap.size 5 (LfA wr (fun b=>b<wr.heap.size)) (.slice Ao (r9L P Q ca cb).length co) (r9L P Q ca cb)):=slLf (hown.sl LfA.mon (by unfold Big;omega)) (Below.refl _ _) (fun b hb=>hb.2) (fun b hb=>hb.2)
     have hbw:=hid (hbk2.out.trans (hb.mono hs2))
     have hsw:=(HX.out _ hbw.out).2.2.1
     obtain⟨q0,q1,q2,q3,q4,q5⟩:=(HX.out _ hbw.out).2.2.2
     have HLN:=hid hln
     clear hown hln hqq q0 q1 q3 q4
     go_upto_region 19 with (fail)
     go_region_held3 (fun w'=>w'.cell? ⟨w.heap.size,2,none⟩=some (.slice A5 ca.length n5)/\w'.cell? ⟨w.heap.size+1,2,none⟩=some (.slice A6 cb.length n6))
      (first|go_keep|(have hq:=(HX.out _ hbv.out).2.2.2;exact⟨hq.2.2.1,hq.2.2.2.2.2⟩)|(have hq:=(HX.out _ hbu.out).2.2.2;exact⟨hq.2.2.1,hq.2.2.2.2.2⟩)|fail)
      (first
          |(go_at_call 110;go_loud ((refine (YE ca cb _ _ wu (HCA.out _ (HX.out _ hbu.out).1) (HCB.out _ (HX.out _ hbu.out).1) (by omega) (by omega) HR1.out HR2.out).mono ?_);rintro e wv ⟨v2,rfl,ho2,hb2⟩;obtain⟨A8,c8,hv8⟩:=ho2.shape;subst hv8;have HO2:=hid ho2;have hbv:=hid (hbu.out.trans (hb2.mono (HX.out _ hbu.out).2.2.1));have HG2:=hid (HX.out _ hbv.out).2.1;have k0:wv.cell? ⟨w.heap.size+2,0,none⟩=some (.slice none 0 0):=Qa (i:=0) HG2.out;have k1:wv.cell? ⟨w.heap.size+2,1,none⟩=some (.slice none 0 0):=Qa (i:=1) HG2.out;have k2:wv.cell? ⟨w.heap.size+2,2,none⟩=some (.slice none 0 0):=Qa (i:=2) HG2.out;have z0:=Qb (i:=0) HG2.out;have z1:=Qb (i:=1) HG2.out;have z2:=Qb (i:=2) HG2.out;have HB2:=hid hb2;clear ho2 hb2))
          |(go_at_call 43;go_loud ((refine (Yt (r9L P Q ca cb) _ _ (slLf HO.out (Below.refl _ wr).drew (fun _ h=>h) (fun b h=>by simpa using h)) (by have:=HLN.out;omega)).mono ?_);rintro e wu ⟨ve1,vk1,rfl,hrd1,hb1⟩;obtain⟨Av,nv,Aw,nw,hv1,hv2⟩:=Qj hrd1;subst hv1;subst hv2;have HR:=hid hrd1;have hbu:=hid (hbw.out.trans (Below.trans ((Below.refl _ wr).drew) (hb1.mono (by simpa using hsw))));clear hrd1 hb1)))
     all_goals (
      go_wp2_with fail
      have hs3:w.heap.size+3<=wv.heap.size:=(HX.out _ hbv.out).2.2.1
      have hs4:w.heap.size+3<=wu.heap.size:=(HX.out _ hbu.out).2.2.1
      have hs12:=HB2.out.size
      obtain⟨r0,r1,r2,hK,hS⟩:=box3 HG2.out (.slice Av (Qz (r9L P Q ca cb)).es.length nv) (.slice Aw (Qz (r9L P Q ca cb)).ks.length nw) (.slice A8 (ctxBy ca cb 0).length c8)
      have hBW:Below w.heap.size w (((wv.setCell ⟨w.heap.size+2,0,none⟩ (.slice Av (Qz (r9L P Q ca cb)).es.length nv)).setCell ⟨w.heap.size+2,1,none⟩ (.slice Aw (Qz (r9L P Q ca cb)).ks.length nw)).setCell ⟨w.heap.size+2,2,none⟩ (.slice A8 (ctxBy ca cb 0).length c8)):=(((HX.out _ hbv.out).1.setCell (by simp) _).setCell (by simp) _).setCell (by simp) _
      clear k0 k1 k2 z0 z1 z2
      generalize (((wv.setCell ⟨w.heap.size+2,0,none⟩ (.slice Av (Qz (r9L P Q ca cb)).es.length nv)).setCell ⟨w.heap.size+2,1,none⟩ (.slice Aw (Qz (r9L P Q ca cb)).ks.length nw)).setCell ⟨w.heap.size+2,2,none⟩ (.slice A8 (ctxBy ca cb 0).length c8))=W at *
      refine bodyPost_ret (v:=.agg #[.slice Av (Qz (r9L P Q ca cb)).es.length nv,.slice Aw (Qz (r9L P Q ca cb)).ks.length nw,.slice A8 (ctxBy ca cb 0).length c8]) (by simp[results,Tryz.results63,go_sem,r0,r1,r2]) rfl ⟨_,_,_,rfl,?_,?_,hBW⟩
      ·exact Qp (fun b hb=>(hK b (by have:=hb.1;simp only[World.size_drew]at this;omega)).trans (HB2.out.block b hb.2)) (fun b hb=>⟨by have:=hb.1;simp only[World.size_drew]at this;omega,by have:=hb.2;omega⟩) _ _ _ HR.out
      ·exact (HO2.out.sla HUL.out).up (fun b hb=>hK b (by have:=hb.1;omega)) (fun b hb=>⟨by have:=hb.1;omega,by have:=hb.2.1;omega⟩) (fun _ _ _ h=>h))
theorem r9_jn {x y:Kn}(hx:KOk x)(hy:KOk y):Qz (r9L (x.1.lvs []) (y.1.lvs []) x.2 y.2)=(jn x y).1:=qV1 hx.ord hy.ord hx.ap hy.ap hx.dep hy.dep
theorem CaE.up {w w':World}{B B':Nat}{x:Kn}{cs:List Value}(h:CaE w B x cs)(hb:Below B w w')(hB:B<=B'):CaE w' B' x cs:=by
 obtain⟨ve,vk,vc,h1,h2,h3⟩:=h
 exact⟨ve,vk,vc,h1,Qi hb hB _ _ _ h2,h3.imp hb hB fun _ _ _ h=>h⟩
theorem CaE.one {w:World}{B:Nat}{x:Kn}{cs:List Value}(h:CaE w B x cs):∀ u∈cs,u.oneCell'=true:=by
 obtain⟨ve,vk,vc,rfl,h2,A,c,rfl,_⟩:=h
 obtain⟨A3,n3,A4,n4,rfl,rfl⟩:=Qk h2
 simp[Value.oneCell']
def CaW (w:World)(_:World)(_:Nat->Prop)(x:Kn)(cs:List Value):Prop:=CaE w w.heap.size x cs
theorem CaW.mon (w:World):Emon (CaW w) where
 up:=fun _ _ h=>h
 one:=fun h=>CaE.one h
def Zb (o:Opr):Bool:=decide (o.path.length<=9)&&(decide (o.s.size<=99)&&o.path.all fun k=>decide (k.size<=99))
theorem qXj (o:Opr)(vp:Value)(w:World)(h:SlP w w.heap.size 1 StE vp o.path)(ho:o.Ok) :
  Calls Tryz.prog 46 #[.agg #[vp,.int .i64 o.act,.string o.s,.int .i64 o.n]] w fun e w'=>e=.returned (.bool (Zb o))/\Below w.heap.size w w':=by
 have hos:=ho.s
 obtain⟨A,n,rfl,c1,c2,c3⟩:=h
 unfold Big at c2 hos
 obtain⟨path,act,s,nn⟩:=o
 simp only at c1 c2 c3 hos ⊢
 have HSB:Hid (Zb ⟨path,act,s,nn⟩=(decide (path.length<=9)&&(decide (s.size<=99)&&path.all fun k=>decide (k.size<=99)))):=rfl
 have hb0:Below w.heap.size w (w.alloc (.cells #[.slice A path.length n,.int .i64 act,.string s,.int .i64 nn] 65)):=(Below.refl _ w).alloc (Nat.le_refl _) _
 go_enter Tryz.func46,Tryz.ntmps46
 by_cases h9:9<path.length
 ·have HR:Hid (Zb ⟨path,act,s,nn⟩=false):=by unfold Hid;rw[HSB.out,decide_eq_false (by omega)];rfl
  have e9:decide ((9:Int)<(path.length:Int))=true:=decide_eq_true (by omega)
  go_wp2_with fail
  go_ret
  exact⟨Qf HR.out.symm,hb0⟩
 have e9:decide ((9:Int)<(path.length:Int))=false:=decide_eq_false (by omega)
 have H9:Hid (decide (path.length<=9)=true):=decide_eq_true (by omega)
 by_cases h99:99<s.size
 ·have HR:Hid (Zb ⟨path,act,s,nn⟩=false):=by unfold Hid;rw[HSB.out,H9.out,decide_eq_false (show ¬s.size<=99 by omega)];rfl
  have e99:decide ((99:Int)<(s.size:Int))=true:=decide_eq_true (by omega)
  go_wp2_with fail
  go_ret
  exact⟨Qf HR.out.symm,hb0⟩
 have e99:decide ((99:Int)<(s.size:Int))=false:=decide_eq_false (by omega)
 have HS2:Hid (Zb ⟨path,act,s,nn⟩=path.all fun k=>decide (k.size<=99)):=by unfold Hid;rw[HSB.out,H9.out,decide_eq_true (show s.size<=99 by omega)];rfl
 go_wp2_with fail
 go_loop [17] (fun i=>∃ k:Nat,k<=path.length/\i=.int .i64 k/\Hid (((path.take k).all fun k=>decide (k.size<=99))=true)) (fun i=>path.length-(intOf i).toNat)
 case atStart=>exact⟨0,Nat.zero_le _,rfl,rfl⟩
 case round=>
  obtain⟨k,hk,rfl,hrel⟩:=hrel
  by_cases hlt:k<path.length
  ·obtain⟨x,hx⟩:∃ x,path[k]?=some x:=⟨_,List.getElem?_eq_getElem hlt⟩
   obtain⟨b,off,rfl,hbB,hc⟩:=c3 (by rintro rfl;simp at hlt)
   obtain⟨cs,⟨rfl,hok⟩,_,hu⟩:=hc k _ hx
   have e0:(w.alloc (.cells #[.slice (some ⟨b,off,none⟩) path.length n,.int .i64 act,.string s,.int .i64 nn] 65)).cell? ⟨b,off+k,none⟩=some (.string x):=(hb0.cell hbB).trans (by simpa using hu 0 _ rfl)
   have HM:Hid (x∈path):=List.mem_of_getElem? hx
   have HT:Hid (((path.take (k+1)).all fun k=>decide (k.size<=99))=decide (x.size<=99)):=by
    unfold Hid;rw[List.take_add_one,hx,List.all_append,hrel.out];simp
   unfold Big at hok
   clear hu hc c3 hx
   by_cases he:99<x.size
   ·have hq:decide ((99:Int)<(x.size:Int))=true:=decide_eq_true (by omega)
    have HR:Hid (Zb ⟨path,act,s,nn⟩=false):=by
     unfold Hid;rw[HS2.out,List.all_eq_false];exact⟨x,HM.out,by simpa using he⟩
    go_wp2_with fail
    go_ret
    exact⟨Qf HR.out.symm,hb0⟩
   ·have hq:decide ((99:Int)<(x.size:Int))=false:=decide_eq_false (by omega)
    have HE:Hid (decide (x.size<=99)=true):=decide_eq_true (by omega)
    go_wp2_with fail
    go_round
    case rel=>exact⟨k+1,by omega,by go_num,by unfold Hid;rw[HT.out];exact HE.out⟩
    case measure=>simp[intOf];omega
  ·obtain rfl:k=path.length:=by omega
   have hr:=hrel.out
   rw[List.take_of_length_le (Nat.le_refl _)]at hr
   have HR:=hid hr
   clear hr hrel
   go_wp2_with fail
   go_ret
   exact⟨Qf (by rw[HS2.out,HR.out]),hb0⟩
def fewL (c:Kn)(l:List Opr):Bool:=sml9 c.1 c.2 40&&(decide (l.length<=20)&&l.all Zb)
theorem qUp (x:Kn)(l:List Opr)(ve vk vc vl:Value)(w:World)(h:x.1.rd w w.heap.size ve vk)(hc:SlP w w.heap.size 3 SpE vc x.2)(hl:OpL w vl l) :
  Calls Tryz.prog 19 #[.agg #[ve,vk,vc],vl] w fun e w'=>e=.returned (.bool (fewL x l))/\Below w.heap.size w w':=by
 have HL0:=hid hl
 have HT:Hid (∀ w',Below w.heap.size w w'->(x.1.rd w' w'.heap.size ve vk/\SlP w' w'.heap.size 3 SpE vc x.2)):=fun w' hb=>⟨Qi hb hb.size _ _ _ h,hc.imp hb hb.size fun _ _ _ h=>h⟩
 obtain⟨A3,n3,A4,n4,rfl,rfl⟩:=Qk h
 obtain⟨A5,n5,rfl,_⟩:=hc
 obtain⟨A,n,rfl,b1,b2,_⟩:=hl
 unfold Big at b2
 have hb0:Below w.heap.size w (w.alloc (.cells #[.slice A3 x.1.es.length n3,.slice A4 x.1.ks.length n4,.slice A5 x.2.length n5] 29)):=(Below.refl _ w).alloc (Nat.le_refl _) _
 have HB0:=hid hb0
 obtain⟨SM,HSM⟩:∃ q,Hid (sml9 x.1 x.2 40=q):=⟨_,rfl⟩
 clear h hb0
 go_enter Tryz.func19,Tryz.ntmps19
 go_wp2_with fail
 refine (qQy x.1 x.2 40 _ _ _ _ (HT.out _ HB0.out).1 (HT.out _ HB0.out).2 (by decide) (by decide)).mono ?_
 rw[HSM.out]
 cases SM
 ·rintro e w1 ⟨rfl,hb⟩
  have HR:Hid (fewL x l=false):=by unfold Hid fewL;rw[HSM.out];rfl
  have hB:=HB0.out.trans (hb.mono (by simp))
  go_wp2_with fail
  go_ret
  exact⟨Qf HR.out.symm,hB⟩
 ·rintro e w1 ⟨rfl,hb⟩
  have hB:=HB0.out.trans (hb.mono (by simp))
  have HB:=hid hB
  clear hb hB
  by_cases hm:20<l.length
  ·have HR:Hid (fewL x l=false):=by unfold Hid fewL;rw[decide_eq_false (show ¬l.length<=20 by omega)];simp
   have hm1:(20:Int)<(l.length:Int):=by omega
   have hm2:decide ((20:Int)<(l.length:Int))=true:=decide_eq_true hm1
   go_wp2_with fail
   go_ret
   exact⟨Qf HR.out.symm,HB.out⟩
  have hm1:¬((20:Int)<(l.length:Int)):=by omega
  have hm2:decide ((20:Int)<(l.length:Int))=false:=decide_eq_false hm1
  have HS:Hid (fewL x l=l.all Zb):=by unfold Hid fewL;rw[HSM.out,decide_eq_true (show l.length<=20 by omega)];rfl
  go_wp2_with fail
  go_loopw [16] (fun i wr=>∃ k:Nat,k<=l.length/\i=.int .i64 k/\Hid ((l.take k).all Zb=true)/\Below w.heap.size w wr) (fun i _=>l.length-(intOf i).toNat)
  case atStart=>exact⟨0,Nat.zero_le _,rfl,rfl,HB.out⟩
  case round=>
   obtain⟨k,hk,rfl,hall,hb⟩:=hrel
   by_cases hlt:k<l.length
   ·obtain⟨o,hx⟩:∃ o,l[k]?=some o:=⟨_,List.getElem?_eq_getElem hlt⟩
    obtain⟨b,off,A6,c6,rfl,hbB,hpx,hox,hu⟩:=OpL.at HL0.out hx
    obtain⟨e0,e1,e2,e3⟩:=hu wr (hb.block b hbB)
    have HM:Hid (o∈l):=List.mem_of_getElem? hx
    have HK:Hid ((l.take (k+1)).all Zb=Zb o):=by
     unfold Hid;rw[List.take_add_one,hx,List.all_append,hall.out];simp
    have HPX:=hid (hpx.imp hb hb.size fun _ _ _ h=>h)
    have HOX:=hid hox
    clear hu hx hpx hox hm
    go_wp2_with fail
    refine (qXj o _ _ HPX.out HOX.out).mono ?_
    cases hs:Zb o
    ·rintro e w1 ⟨rfl,hb1⟩
     have HR:Hid (l.all Zb=false):=by unfold Hid;rw[List.all_eq_false];exact⟨o,HM.out,by simp[hs]⟩
     have hB1:=hb.trans (hb1.mono hb.size)
     clear hs
     go_wp2_with fail
     go_ret
     exact⟨Qf (by rw[HS.out,HR.out]),hB1⟩
    ·rintro e w1 ⟨rfl,hb1⟩
     have HT2:Hid ((l.take (k+1)).all Zb=true):=by unfold Hid;rw[HK.out,hs]
     have hB1:=hb.trans (hb1.mono hb.size)
     clear hs
     go_wp2_with fail
     go_roundw
     case rel=>exact⟨k+1,by omega,by go_num,HT2,hB1⟩
     case measure=>simp[intOf];omega
   ·have hke:k=l.length:=by omega
    subst hke
    have HR:Hid (l.all Zb=true):=by have:=hall.out;rwa [List.take_of_length_le (Nat.le_refl _)]at this
    go_wp2_with fail
    go_ret
    exact⟨Qf (by rw[HS.out,HR.out]),hb⟩
theorem zJi {W:World}{v:Value}{l:List Opr}(h:SlP W W.heap.size 4 (OpE W W.heap.size) v l):OpL W v l:=
 SlP.imp h (Below.refl _ _) (Nat.le_refl _) fun _ _ _ ⟨vp,h1,h2,h3⟩=>by
  obtain⟨A,c,h4,_⟩:=id h2
  subst h4
  exact⟨A,c,h1,Zk.1 h2,h3⟩
theorem YO {t:Tr}{o:Opr}{d:Dt}(h:appI t o d≠0):appT t o d=.mk [] []/\appC t o d=[]:=by
 unfold appT appC
 exact⟨if_neg fun q=>h q.1,if_neg h⟩
theorem zZc (u:Tr)(o:Opr)(d:Dt)(hz:u.sz<=200):(leafX u o d).1.sz<=2/\(leafX u o d).2.1.length<=8000:=by
 have s0:(Tr.mk [] []).sz=0:=by simp[Tr.sz,Tr.szL]
 have s1:∀ e:En,(Tr.mk [e] []).sz=1:=fun e=>by simp[Tr.sz,Tr.szL]
 have s2:∀ (k:ByteArray) (e:En),(Tr.mk [] [(k,.mk [e] [])]).sz=2:=fun k e=>by simp[Tr.sz,Tr.szL]
 have h1:=Yo u d
 have h2:=Yo (kidT u o.s) d
 have h3:=YG u o.s
 have h6:(ownD u).length<=u.sz:=by unfold ownD;rw[List.length_map];have:=es_sz u;omega
 have h4:(ctxOf [d]).length<=8:=by have:=QL [d];simpa using this
 have h5:(ctxOf (d :: ownD u)).length<=4*(u.sz+2):=by have:=QL (d :: ownD u);rw[List.length_cons]at this;omega
 have e1:∀ (b:Prop) [Decidable b] (X Y:Tr),(X.sz<=2)->(Y.sz<=2)->(if b then X else Y).sz<=2:=fun b _ X Y h k=>by split<;>assumption
 have e2:∀ (b:Prop) [Decidable b] (X:List Sp),X.length<=8000->(if b then X else []).length<=8000:=fun b _ X h=>by split;exact h;simp
 have c1:∀ e:En,(Tr.mk [e] []).sz<=2:=fun e=>by rw[s1];omega
 have c2:∀ (k:ByteArray) (e:En),(Tr.mk [] [(k,.mk [e] [])]).sz<=2:=fun k e=>by rw[s2];omega
 have c0:(Tr.mk [] []).sz<=2:=by rw[s0];omega
 unfold leafX
 split
 ·exact⟨e1 _ _ _ (c1 _) c0,e2 _ _ (by omega)⟩
 split
 ·exact⟨c0,e2 _ _ (by omega)⟩
 split
 ·exact⟨e1 _ _ _ (c2 _ _) c0,e2 _ _ (by omega)⟩
 split
 ·exact⟨c0,e2 _ _ (by omega)⟩
 split
 ·exact⟨e1 _ _ _ (c1 _) c0,e2 _ (ctxOf [d]) (Nat.le_trans h4 (by omega))⟩
 split
 ·exact⟨e1 _ _ _ (c1 _) c0,e2 _ (ctxOf (d :: ownD u)) (Nat.le_trans h5 (by omega))⟩
 ·exact⟨c0,e2 _ _ (by omega)⟩
theorem zX9 (t:Tr)(p:List ByteArray)(i:Nat)(x:Tr×List Sp×Int):(updX t p i x).1.sz<=x.1.sz+1/\(updX t p i x).2.1.length<=x.2.1.length:=by
 have s0:(Tr.mk [] []).sz=0:=by simp[Tr.sz,Tr.szL]
 unfold updX updT updC wrapT
 constructor
 ·simp only
  split
  ·split
   ·split
    ·omega
    ·simp[Tr.sz,Tr.szL];omega
   ·omega
  ·omega
 ·simp only
  split
  ·exact Nat.le_refl _
  ·simp
def BoxG (m:Nat)(V:World)(e:TypeId)(T:Tr)(c:List Sp)(s:Value)(wx:World):Prop:=
 ∃ g,s=.pointer (some ⟨g,0,none⟩)/\m<=g/\∃ u v x,wx.heap[g]?=some (.cells #[u,v,x] e (0,0))/\T.rda wx (fun b=>m<=b/\b<wx.heap.size) u v/\SlA wx (fun b=>m<=b/\b<wx.heap.size) 3 SpE x c/\Below m V wx
theorem XY {m N:Nat}{V w7:World}{e:TypeId}{T:Tr}{c:List Sp}{u v x:Value}(hb:Below m V w7)(hm:m<=w7.heap.size)(hN:m<=N)(hr:T.rda w7 (fun b=>N<=b/\b<w7.heap.size) u v)(hc:SlA w7 (fun b=>N<=b/\b<w7.heap.size) 3 SpE x c) :
  BoxG m V e T c (.pointer (some ⟨w7.heap.size,0,none⟩)) (w7.alloc (.cells #[u,v,x] e)):=
 ⟨w7.heap.size,rfl,hm,u,v,x,Qd rfl,Qp (fun b hb=>Qg hb.2) (fun b hb=>⟨by omega,by rw[World.size_alloc];omega⟩) _ _ _ hr,hc.up (fun b hb=>Qg hb.2) (fun b hb=>⟨by omega,by rw[World.size_alloc];omega⟩) (fun _ _ _ h=>h),hb.alloc hm _⟩
theorem Y8 {m N g:Nat}{V w7:World}{e:TypeId}{T:Tr}{c:List Sp}{u v x a b d:Value}(hbx:w7.heap[g]?=some (.cells #[a,b,d] e (0,0)))(hb:Below m V w7)(hg:m<=g)(hgN:g<N)(hr:T.rda w7 (fun b=>N<=b/\b<w7.heap.size) u v)(hc:SlA w7 (fun b=>N<=b/\b<w7.heap.size) 3 SpE x c) :
  BoxG m V e T c (.pointer (some ⟨g,0,none⟩)) (((w7.setCell ⟨g,0,none⟩ u).setCell ⟨g,1,none⟩ v).setCell ⟨g,2,none⟩ x):=by
 obtain⟨_,_,_,hK,hS⟩:=box3 hbx u v x
 have hW:=Qe (i:=2) (Qe (i:=1) (Qe (i:=0) hbx u) v) x
 exact⟨g,rfl,hg,u,v,x,by simpa using hW,Qp (fun b hb=>hK b (by omega)) (fun b hb=>⟨by omega,by rw[hS];exact hb.2⟩) _ _ _ hr,hc.up (fun b hb=>hK b (by omega)) (fun b hb=>⟨by omega,by rw[hS];exact hb.2⟩) (fun _ _ _ h=>h),((hb.setCell hg _).setCell hg _).setCell hg _⟩
theorem qUj {t:Tr}{o:Opr}{d:Dt}{X:Tr×List Sp×Int}(ho:OpOk o)(hi:opI o=0)(ht:t.right 5=true)(hc:chkT t d=true)(hX:X=ZF t o.path o.path.length (leafX (getK t o.path) o d)):(X.2.2=0->appT t o d=X.1/\appC t o d=X.2.1/\appI t o d=0)/\(X.2.2≠0->appI t o d=X.2.2):=by
 have h:=zQ3 ho hc
 rw[←hX]at h
 have hA:appI t o d=if fullB t o then 4 else 0:=by
  unfold appI
  rw[ht,hi,hc];simp
 cases hf:fullB t o
 ·rw[hf,if_neg (by simp)]at h
  rw[hf,if_neg (by simp)]at hA
  rw[h]
  refine⟨fun _=>⟨?_,?_,hA⟩,fun h=>absurd rfl h⟩
  ·unfold appT
   simp only[hA,true_and]
  ·unfold appC
   rw[if_pos hA]
 ·rw[hf,if_pos rfl]at h
  rw[hf,if_pos rfl]at hA
  exact⟨fun h0=>(by rw[h]at h0;cases h0),fun _=>(by rw[hA,h])⟩
theorem Kz (t:Tr)(o:Opr)(d:Dt)(ve vk vp:Value)(w:World)(h:t.rd w w.heap.size ve vk)(hp:SlP w w.heap.size 1 StE vp o.path)(ho:o.Ok)(hd:d.Ok)(hN:t.sz<=200) :
  Calls Tryz.prog 61 #[.agg #[ve,vk],.agg #[vp,.int .i64 o.act,.string o.s,.int .i64 o.n],.agg #[.int .i64 d.dc,.int .i64 d.n]] w (RetCE w (appT t o d) (appC t o d) (appI t o d)):=by
 have HC:Hid (∀ w',Below w.heap.size w w'->t.rd w' w'.heap.size ve vk):=fun w' hb=>Qi hb hb.size _ _ _ h
 have HD:Hid (∀ w',Below w.heap.size w w'->SlP w' w'.heap.size 1 StE vp o.path):=fun w' hb=>hp.imp hb hb.size fun _ _ _ h=>h
 obtain⟨A3,n3,A4,n4,rfl,rfl⟩:=Qk h
 obtain⟨A5,n5,rfl,p1,p2,p3⟩:=hp
 unfold Big at p2
 have HO:=hid ho
 obtain⟨oa,on,os⟩:=ho
 obtain⟨path,act,s,n⟩:=o
 simp only at oa on os p1 p2 p3 HD HO ⊢
 have hb0:=((((Below.refl w.heap.size w).alloc (Nat.le_refl _) (.cells #[.slice A3 t.es.length n3,.slice A4 t.ks.length n4] 25)).alloc (by simp) (.cells #[.slice A5 path.length n5,.int .i64 act,.string s,.int .i64 n] 65)).alloc (by simp;omega) (.cells #[.int .i64 d.dc,.int .i64 d.n] 78)).alloc (by simp;omega) (.cells #[.slice none 0 0,.slice none 0 0,.slice none 0 0] 29)
 have HX:Hid (∀ W,Below (w.heap.size+4) ((((w.alloc (.cells #[.slice A3 t.es.length n3,.slice A4 t.ks.length n4] 25)).alloc (.cells #[.slice A5 path.length n5,.int .i64 act,.string s,.int .i64 n] 65)).alloc (.cells #[.int .i64 d.dc,.int .i64 d.n] 78)).alloc (.cells #[.slice none 0 0,.slice none 0 0,.slice none 0 0] 29)) W ->
   (Below w.heap.size w W/\t.rd W W.heap.size (.slice A3 t.es.length n3) (.slice A4 t.ks.length n4)/\SlP W W.heap.size 1 StE (.slice A5 path.length n5) path/\W.cell? ⟨w.heap.size,0,none⟩=some (.slice A3 t.es.length n3)/\W.cell? ⟨w.heap.size,1,none⟩=some (.slice A4 t.ks.length n4)/\W.cell? ⟨w.heap.size+1,0,none⟩=some (.slice A5 path.length n5)/\W.cell? ⟨w.heap.size+1,1,none⟩=some (.int .i64 act)/\W.cell? ⟨w.heap.size+1,2,none⟩=some (.string s)/\W.cell? ⟨w.heap.size+1,3,none⟩=some (.int .i64 n) /\
    W.cell? ⟨w.heap.size+2,0,none⟩=some (.int .i64 d.dc)/\W.cell? ⟨w.heap.size+2,1,none⟩=some (.int .i64 d.n)/\W.heap[w.heap.size+3]?=some (.cells #[.slice none 0 0,.slice none 0 0,.slice none 0 0] 29 (0,0)))):=fun W hW=>by
  have g0:W.heap[w.heap.size]?=some (.cells #[.slice A3 t.es.length n3,.slice A4 t.ks.length n4] 25 (0,0)):=(hW.block _ (by omega)).trans ((Qg (by simp<;>omega)).trans ((Qg (by simp<;>omega)).trans ((Qg (by simp)).trans (Qd rfl))))
  have g1:W.heap[w.heap.size+1]?=some (.cells #[.slice A5 path.length n5,.int .i64 act,.string s,.int .i64 n] 65 (0,0)):=(hW.block _ (by omega)).trans ((Qg (by simp<;>omega)).trans ((Qg (by simp)).trans (Qd (by simp))))
  have g2:W.heap[w.heap.size+2]?=some (.cells #[.int .i64 d.dc,.int .i64 d.n] 78 (0,0)):=(hW.block _ (by omega)).trans ((Qg (by simp)).trans (Qd (by simp)))
  have g3:W.heap[w.heap.size+3]?=some (.cells #[.slice none 0 0,.slice none 0 0,.slice none 0 0] 29 (0,0)):=(hW.block _ (by omega)).trans (Qd (by simp))
  have hB:=hb0.trans (hW.mono (by omega))
  exact⟨hB,HC.out _ hB,HD.out _ hB,Qa (i:=0) g0,Qa (i:=1) g0,Qa (i:=0) g1,Qa (i:=1) g1,Qa (i:=2) g1,Qa (i:=3) g1,Qa (i:=0) g2,Qa (i:=1) g2,g3⟩
 clear h
 go_enter Tryz.func61,Tryz.ntmps61
 go_wp2_with fail
 obtain⟨hB,rt,rp,c0,c1,p4,p5,p6,p7,d0,d1,g3⟩:=HX.out _ (Below.refl _ _)
 refine (QG t _ _ _ rt).mono ?_
 cases ht:t.right 5
 ·rintro e w1 ⟨rfl,hb1⟩
  have HBN:=hid (hb1.mono (show w.heap.size+4<=_ by simp))
  have hAE:appI t ⟨path,act,s,n⟩ d=1:=by unfold appI;rw[ht];rfl
  have HAE:=hid hAE
  obtain⟨hAT,hAC⟩:=YO (t:=t) (o:=⟨path,act,s,n⟩) (d:=d) (by rw[hAE];first|decide|assumption)
  have HAT:=hid hAT
  have HAC:=hid hAC
  clear hAE hAT hAC
  clear hB rt rp c0 c1 p4 p5 p6 p7 d0 d1 g3 ht hb1
  have hG:=(HX.out _ HBN.out).2.2.2.2.2.2.2.2.2.2.2
  have hBz:=(HX.out _ HBN.out).1
  have HG:=hid hG
  have HBZ:=hid hBz
  obtain⟨k0,k1,k2,z0,z1,z2⟩:=bz3 hG
  clear hG hBz
  go_wp2_with fail
  obtain⟨r0,r1,r2,q1,q2,q3⟩:=QU (N:=w.heap.size+4) (T:=.mk [] []) (C:=[]) HG.out HBZ.out (by omega) (by omega) (Qo _ _) SlA.nil
  exact bodyPost_ret (v:=.tuple #[.agg #[.slice none 0 0,.slice none 0 0,.slice none 0 0],.int .i64 1]) (by simp[results,Tryz.results61,go_sem,r0,r1,r2]<;>rfl) rfl ⟨_,_,_,by rw[HAE.out],by rw[HAT.out];exact q1,by rw[HAC.out];exact q2,q3⟩
 rintro e w1 ⟨rfl,hb1⟩
 have HBN:=hid (hb1.mono (show w.heap.size+4<=_ by simp))
 clear hB rt rp c0 c1 p4 p5 p6 p7 d0 d1 g3 hb1
 obtain⟨hB,rt,rp,c0,c1,p4,p5,p6,p7,d0,d1,g3⟩:=HX.out _ HBN.out
 have HT:=hid ht
 clear ht
 go_wp2_with fail
 refine (qUi ⟨path,act,s,n⟩ _ _ rp HO.out).mono ?_
 by_cases hi:opI ⟨path,act,s,n⟩=0
 case neg=>
  rintro e w2 ⟨rfl,hb2⟩
  have HBN2:=hid (HBN.out.trans (hb2.mono (by have:=HBN.out.size;simpa using this)))
  have hne:(opI ⟨path,act,s,n⟩==0)=false:=by simpa using hi
  have hAE:appI t ⟨path,act,s,n⟩ d=(opI ⟨path,act,s,n⟩):=by unfold appI;rw[HT.out];simp only[Bool.not_true,Bool.false_eq_true,if_false];rw[if_pos hi]
  have HAE:=hid hAE
  obtain⟨hAT,hAC⟩:=YO (t:=t) (o:=⟨path,act,s,n⟩) (d:=d) (by rw[hAE];first|decide|assumption)
  have HAT:=hid hAT
  have HAC:=hid hAC
  clear hAE hAT hAC
  clear hB rt rp c0 c1 p4 p5 p6 p7 d0 d1 g3 hb2 hi HBN
  have HBN:=HBN2
  have hG:=(HX.out _ HBN.out).2.2.2.2.2.2.2.2.2.2.2
  have hBz:=(HX.out _ HBN.out).1
  have HG:=hid hG
  have HBZ:=hid hBz
  obtain⟨k0,k1,k2,z0,z1,z2⟩:=bz3 hG
  clear hG hBz
  go_wp2_with fail
  obtain⟨r0,r1,r2,q1,q2,q3⟩:=QU (N:=w.heap.size+4) (T:=.mk [] []) (C:=[]) HG.out HBZ.out (by omega) (by omega) (Qo _ _) SlA.nil
  exact bodyPost_ret (v:=.tuple #[.agg #[.slice none 0 0,.slice none 0 0,.slice none 0 0],.int .i64 (opI ⟨path,act,s,n⟩)]) (by simp[results,Tryz.results61,go_sem,r0,r1,r2]<;>rfl) rfl ⟨_,_,_,by rw[HAE.out],by rw[HAT.out];exact q1,by rw[HAC.out];exact q2,q3⟩
 rw[hi]
 rintro e w2 ⟨rfl,hb2⟩
 have HBN2:=hid (HBN.out.trans (hb2.mono (by have:=HBN.out.size;simpa using this)))
 have HI:=hid hi
 clear hB rt rp c0 c1 p4 p5 p6 p7 d0 d1 g3 hb2 hi HBN
 have HBN:=HBN2
 clear HBN2
 obtain⟨hB,rt,rp,c0,c1,p4,p5,p6,p7,d0,d1,g3⟩:=HX.out _ HBN.out
 go_wp2_with fail
 refine (Zs t d _ _ _ rt (by omega)).mono ?_
 cases hk:chkT t d
 ·have hck:chkI t d=1:=by unfold chkI;rw[hk];rfl
  rw[hck]
  rintro e w3 ⟨rfl,hb3⟩
  have HBN2:=hid (HBN.out.trans (hb3.mono (by have:=HBN.out.size;simpa using this)))
  have hAE:appI t ⟨path,act,s,n⟩ d=1:=by unfold appI;rw[HT.out,HI.out,hk];rfl
  have HAE:=hid hAE
  obtain⟨hAT,hAC⟩:=YO (t:=t) (o:=⟨path,act,s,n⟩) (d:=d) (by rw[hAE];first|decide|assumption)
  have HAT:=hid hAT
  have HAC:=hid hAC
  clear hAE hAT hAC
  clear hB rt rp c0 c1 p4 p5 p6 p7 d0 d1 g3 hb3 hk hck HBN
  have HBN:=HBN2
  have hG:=(HX.out _ HBN.out).2.2.2.2.2.2.2.2.2.2.2
  have hBz:=(HX.out _ HBN.out).1
  have HG:=hid hG
  have HBZ:=hid hBz
  obtain⟨k0,k1,k2,z0,z1,z2⟩:=bz3 hG
  clear hG hBz
  go_wp2_with fail
  obtain⟨r0,r1,r2,q1,q2,q3⟩:=QU (N:=w.heap.size+4) (T:=.mk [] []) (C:=[]) HG.out HBZ.out (by omega) (by omega) (Qo _ _) SlA.nil
  exact bodyPost_ret (v:=.tuple #[.agg #[.slice none 0 0,.slice none 0 0,.slice none 0 0],.int .i64 1]) (by simp[results,Tryz.results61,go_sem,r0,r1,r2]<;>rfl) rfl ⟨_,_,_,by rw[HAE.out],by rw[HAT.out];exact q1,by rw[HAC.out];exact q2,q3⟩
 have hck:chkI t d=0:=by unfold chkI;rw[hk];rfl
 rw[hck]
 rintro e w3 ⟨rfl,hb3⟩
 have HBN2:=hid (HBN.out.trans (hb3.mono (by have:=HBN.out.size;simpa using this)))
 have HK:=hid hk
 clear hB rt rp c0 c1 p4 p5 p6 p7 d0 d1 g3 hb3 hk hck HBN
 have HBN:=HBN2
 clear HBN2
 have hsN:=HBN.out.size
 simp only[World.size_alloc]at hsN
 obtain⟨hB,rt,rp,c0,c1,p4,p5,p6,p7,d0,d1,g3⟩:=HX.out _ HBN.out
 clear g3
 go_upto_region 9 with (fail)
 obtain⟨u,HU⟩:∃ u,Hid (tgetT t path=u):=⟨_,rfl⟩
 obtain⟨⟨LT,LC,LE⟩,HLX⟩:∃ q,Hid (leafX u ⟨path,act,s,n⟩ d=q):=⟨_,rfl⟩
 have HUK:Hid (getK t path=u):=(XR HT.out path).symm.trans HU.out
 have hus:u.sz<=200:=by rw[←HUK.out];exact Nat.le_trans (Q1 t path) hN
 obtain⟨hLs,hLl⟩:=zZc u ⟨path,act,s,n⟩ d hus
 rw[HLX.out]at hLs hLl
 simp only at hLs hLl
 have HDO:=hid hd
 have HY:Hid (∀ W,Below w3.heap.size w3 W->(Below w.heap.size w W/\t.rd W W.heap.size (.slice A3 t.es.length n3) (.slice A4 t.ks.length n4)/\SlP W W.heap.size 1 StE (.slice A5 path.length n5) path)):=fun W hW=>by
  obtain⟨a,b,c,_⟩:=HX.out W (HBN.out.trans (hW.mono (by omega)))
  exact⟨a,b,c⟩
 have HKK:Hid (∀ W,Below w3.heap.size w3 W->(W.cell? ⟨w.heap.size,0,none⟩=some (.slice A3 t.es.length n3)/\W.cell? ⟨w.heap.size,1,none⟩=some (.slice A4 t.ks.length n4)/\W.cell? ⟨w.heap.size+1,0,none⟩=some (.slice A5 path.length n5)/\W.cell? ⟨w.heap.size+1,1,none⟩=some (.int .i64 act)/\W.cell? ⟨w.heap.size+1,2,none⟩=some (.string s)/\W.cell? ⟨w.heap.size+1,3,none⟩=some (.int .i64 n)/\W.cell? ⟨w.heap.size+2,0,none⟩=some (.int .i64 d.dc)/\W.cell? ⟨w.heap.size+2,1,none⟩=some (.int .i64 d.n))):=fun W hW=>by
  obtain⟨_,_,_,a0,a1,a2,a3,a4,a5,a6,a7,_⟩:=HX.out W (HBN.out.trans (hW.mono (by omega)))
  exact⟨a0,a1,a2,a3,a4,a5,a6,a7⟩
 clear hB rt rp hus
 go_cut [10,11] (fun s10 s11 wx=>s11=.int .i64 LE/\BoxG w3.heap.size w3 29 LT LC s10 wx)
 case first=>
  go_region_held3 (fun W=>W.cell? ⟨w.heap.size,0,none⟩=some (.slice A3 t.es.length n3)/\W.cell? ⟨w.heap.size,1,none⟩=some (.slice A4 t.ks.length n4)/\W.cell? ⟨w.heap.size+1,0,none⟩=some (.slice A5 path.length n5)/\W.cell? ⟨w.heap.size+1,1,none⟩=some (.int .i64 act)/\W.cell? ⟨w.heap.size+1,2,none⟩=some (.string s)/\W.cell? ⟨w.heap.size+1,3,none⟩=some (.int .i64 n)/\W.cell? ⟨w.heap.size+2,0,none⟩=some (.int .i64 d.dc)/\W.cell? ⟨w.heap.size+2,1,none⟩=some (.int .i64 d.n))
   (first|go_keep|exact HKK.out _ hbr5.out|exact HKK.out _ (hbr5.out.trans (by go_grown))|exact HKK.out _ hbr4.out|exact HKK.out _ (hbr4.out.trans (by go_grown))|exact HKK.out _ (((hbr5.out.setCell (by first|(simp;done)|(simp;omega)) _).setCell (by first|(simp;done)|(simp;omega)) _).setCell (by first|(simp;done)|(simp;omega)) _)|exact HKK.out _ (by go_grown)|fail)
   (first
    |(go_at_call 99;go_loud ((refine (zQ9 u ⟨path,act,s,n⟩ d _ _ _ _ (HRu.out _ (by go_grown)) (HY.out _ (hbr4.out.trans (by go_grown))).2.2 HO.out HDO.out (by have:=hN;rw[←HUK.out];exact Nat.le_trans (Q1 t path) (by omega))).mono ?_);rw[HLX.out];dsimp only;rintro e w5 ⟨xe5,xk5,xc5,rfl,hrd5,hsl5,hb⟩;have hbr5:Hid (Below w3.heap.size w3 w5):=hid (Below.trans (hbr4.out.trans (by go_grown)) (hb.mono (by first|omega|(simp;done)|(simp;omega))));have hsr5:=hbr5.out.size;obtain⟨Ar5,nr5,Br5,mr5,hv1,hv2⟩:=Qj hrd5;subst hv1;subst hv2;obtain⟨Dr5,kr5,hv3⟩:=hsl5.shape;subst hv3;have HR5:=hid hrd5;have HL5:=hid hsl5;clear hrd5 hsl5;(first|(have HG5:Hid (w5.heap[w4.heap.size]?=some (.cells #[.slice none 0 0,.slice none 0 0,.slice none 0 0] 29 (0,0))):=hid (z_new hb);have k0:w5.cell? ⟨w4.heap.size,0,none⟩=some (.slice none 0 0):=Qa (i:=0) HG5.out;have k1:w5.cell? ⟨w4.heap.size,1,none⟩=some (.slice none 0 0):=Qa (i:=1) HG5.out;have k2:w5.cell? ⟨w4.heap.size,2,none⟩=some (.slice none 0 0):=Qa (i:=2) HG5.out;have z0:=Qb (i:=0) HG5.out;have z1:=Qb (i:=1) HG5.out;have z2:=Qb (i:=2) HG5.out;have hna0:w.heap.size≠w4.heap.size:=(by omega);have hnb0:w4.heap.size≠w.heap.size:=(by omega);have hna1:(w.heap.size+1)≠w4.heap.size:=(by omega);have hnb1:w4.heap.size≠(w.heap.size+1):=(by omega);have hna2:(w.heap.size+2)≠w4.heap.size:=(by omega);have hnb2:w4.heap.size≠(w.heap.size+2):=(by omega))|(have HG5:Hid (w5.heap[w3.heap.size]?=some (.cells #[.slice none 0 0,.slice none 0 0,.slice none 0 0] 29 (0,0))):=hid ((hb.block _ (lt_of_block HGA.out)).trans HGA.out);have k0:w5.cell? ⟨w3.heap.size,0,none⟩=some (.slice none 0 0):=Qa (i:=0) HG5.out;have k1:w5.cell? ⟨w3.heap.size,1,none⟩=some (.slice none 0 0):=Qa (i:=1) HG5.out;have k2:w5.cell? ⟨w3.heap.size,2,none⟩=some (.slice none 0 0):=Qa (i:=2) HG5.out;have z0:=Qb (i:=0) HG5.out;have z1:=Qb (i:=1) HG5.out;have z2:=Qb (i:=2) HG5.out;have hna0:w.heap.size≠w3.heap.size:=(by omega);have hnb0:w3.heap.size≠w.heap.size:=(by omega);have hna1:(w.heap.size+1)≠w3.heap.size:=(by omega);have hnb1:w3.heap.size≠(w.heap.size+1):=(by omega);have hna2:(w.heap.size+2)≠w3.heap.size:=(by omega);have hnb2:w3.heap.size≠(w.heap.size+2):=(by omega))|skip);clear hb))
    |(go_at_call 83;go_loud ((refine (XA t path _ _ _ _ (HY.out _ (by go_grown)).2.1 (HY.out _ (by go_grown)).2.2 (by omega)).mono ?_);rw[HU.out];rintro e w4 ⟨xe4,xk4,rfl,hrd4,hb⟩;have hbr4:Hid (Below w3.heap.size w3 w4):=hid (Below.trans (by go_grown) (hb.mono (by first|omega|(simp;done)|(simp;omega))));have hsr4:=hbr4.out.size;obtain⟨Ar4,nr4,Br4,mr4,hv1,hv2⟩:=Qj hrd4;subst hv1;subst hv2;have HR4:=hid hrd4;have HRu:Hid (∀ W,Below w4.heap.size w4 W->u.rd W W.heap.size (.slice Ar4 u.es.length nr4) (.slice Br4 u.ks.length mr4)):=fun W hW=>QQ HR4.out (fun b hb=>hb.2) hW;clear hrd4;(first|(have HGA:Hid (w4.heap[w3.heap.size]?=some (.cells #[.slice none 0 0,.slice none 0 0,.slice none 0 0] 29 (0,0))):=hid (zX4 hb))|(have HGA:Hid (w4.heap[w3.heap.size]?=some (.cells #[.slice none 0 0,.slice none 0 0,.slice none 0 0] 29 (0,0))):=hid (Kp hb))|(have HGA:Hid (w4.heap[w3.heap.size]?=some (.cells #[.slice none 0 0,.slice none 0 0,.slice none 0 0] 29 (0,0))):=hid (zJb hb))|(have HGA:Hid (w4.heap[w3.heap.size]?=some (.cells #[.slice none 0 0,.slice none 0 0,.slice none 0 0] 29 (0,0))):=hid (z_new hb))|skip);clear hb)))
  all_goals
   go_wp2_with fail
   go_meet
   case rel=>exact⟨rfl,(by first|exact XY hbr5.out hbr5.out.size (by first|omega|(simp;omega)) HR5.out HL5.out|exact Y8 HG5.out hbr5.out (by omega) (by first|(simp;done)|(simp;omega)|exact lt_of_block HGA.out|(have:=lt_of_block HGA.out;simp;omega)) HR5.out HL5.out)⟩
 case rest=>
  obtain⟨rfl,g,rfl,hgm,xe,xk,xc,hG,hrd,hsl,hbz⟩:=hcut
  obtain⟨wq,hwq⟩:∃ z:World,z=wc:=⟨wc,rfl⟩
  subst hwq
  obtain⟨Aa,na,Ab,nb,rfl,rfl⟩:=Qj hrd
  obtain⟨Ac,nc,rfl⟩:=hsl.shape
  have hgl:=lt_of_block hG
  obtain⟨a0,a1,a2,a3,a4,a5,a6,a7⟩:=HKK.out _ hbz
  have hpl:=Q2 (op_ok HI.out).path
  have hpl1:=hpl.1
  have hpl2:=hpl.2.1
  simp only at hpl1 hpl2
  clear hpl
  obtain⟨P,HP⟩:∃ P,Hid (ZF t path path.length (LT,LC,LE)=P):=⟨_,rfl⟩
  go_wp2_with fail
  go_loopw [11,12] (fun e i wr=>∃ (j:Nat) (X:Tr×List Sp×Int),j<=path.length/\i=.int .i64 ((j:Int)-1)/\e=.int .i64 X.2.2/\Hid (ZF t path j X=P)/\X.1.sz+j<=2+path.length/\X.2.1.length<=8000/\(∃ xa xb xd,wr.heap[g]?=some (.cells #[xa,xb,xd] 29 (0,0))/\X.1.rda wr (fun b=>w3.heap.size<=b/\b<wr.heap.size) xa xb/\SlA wr (fun b=>w3.heap.size<=b/\b<wr.heap.size) 3 SpE xd X.2.1)/\Below w3.heap.size w3 wr) (fun _ i _=>(intOf i+1).toNat)
  case atStart=>exact⟨path.length,(LT,LC,LE),Nat.le_refl _,by go_num,rfl,HP.out,by simp only;omega,hLl,⟨_,_,_,hG,hrd,hsl⟩,hbz⟩
  case round=>
   obtain⟨j,⟨XT,XC,XE⟩,hj,rfl,rfl,hup,hxs,hxl,⟨xa,xb,xd,hGr,hrr,hsr⟩,hbr⟩:=hrel
   simp only at hup hxs hxl hrr hsr
   obtain⟨Aa',na',Ab',nb',rfl,rfl⟩:=Qj hrr
   obtain⟨Ac',nc',rfl⟩:=hsr.shape
   have hgr:=lt_of_block hGr
   by_cases hex:j=0∨XE≠0
   ·have HXP:Hid ((XT,XC,XE)=P):=by
     rcases hex with rfl|hne
     ·exact hup.out
     ·have:=hup.out;rw[Y5 hne]at this;exact this
    have hTL:=qUj (X:=(XT,XC,XE)) (op_ok HI.out) HI.out HT.out HK.out (by rw[HXP.out,←HP.out];simp only;rw[HUK.out,HLX.out])
    simp only at hTL
    have hGZ:=(HX.out wr (HBN.out.trans (hbr.mono (by omega)))).2.2.2.2.2.2.2.2.2.2.2
    have hBw:=(HX.out wr (HBN.out.trans (hbr.mono (by omega)))).1
    obtain⟨q0,q1,q2⟩:=bx3 hGr
    obtain⟨k0,k1,k2,z0,z1,z2⟩:=bz3 hGZ
    have HGZ:=hid hGZ
    have HBw:=hid hBw
    have HRR:=hid hrr
    have HSR:=hid hsr
    have hgne:g≠w.heap.size+3:=by omega
    have hgne':g≠w.heap.size+1+1+1:=by omega
    clear hGZ hBw hGr hrr hsr hup HXP
    by_cases he:XE=0
    ·subst he
     obtain⟨hA1,hA2,hA3⟩:=hTL.1 rfl
     have HA1:=hid hA1
     have HA2:=hid hA2
     have HA3:=hid hA3
     have hj0:j=0:=by rcases hex with h|h;exact h;exact absurd rfl h
     subst hj0
     clear hA1 hA2 hA3 hTL hex
     go_wp2_with fail
     obtain⟨r0,r1,r2,q3,q4,q5⟩:=QU (N:=w3.heap.size) HGZ.out HBw.out (by omega) (by omega) HRR.out HSR.out
     exact bodyPost_ret (v:=.tuple #[.agg #[.slice Aa' XT.es.length na',.slice Ab' XT.ks.length nb',.slice Ac' XC.length nc'],.int .i64 0]) (by simp[results,Tryz.results61,go_sem,r0,r1,r2]<;>rfl) rfl ⟨_,_,_,by rw[HA3.out],by rw[HA1.out];exact q3,by rw[HA2.out];exact q4,q5⟩
    ·have hA:=hTL.2 he
     have HAE:=hid hA
     obtain⟨hAT,hAC⟩:=YO (t:=t) (o:=⟨path,act,s,n⟩) (d:=d) (by rw[hA];exact he)
     have HAT:=hid hAT
     have HAC:=hid hAC
     have hne:(XE==0)=false:=by simpa using he
     clear hA hAT hAC hTL hex he
     go_wp2_with fail
     all_goals (
      obtain⟨r0,r1,r2,q3,q4,q5⟩:=QU (N:=w3.heap.size) (T:=.mk [] []) (C:=[]) HGZ.out HBw.out (by omega) (by omega) (Qo _ _) SlA.nil
      exact bodyPost_ret (v:=.tuple #[.agg #[.slice none 0 0,.slice none 0 0,.slice none 0 0],.int .i64 XE]) (by simp[results,Tryz.results61,go_sem,r0,r1,r2]<;>rfl) rfl ⟨_,_,_,by rw[HAE.out],by rw[HAT.out];exact q3,by rw[HAC.out];exact q4,q5⟩)
   ·have hj1:j≠0:=fun h=>hex (.inl h)
    have hXE:XE=0:=by
     by_cases h:XE=0
     ·exact h
     ·exact absurd (.inr h) hex
    subst hXE
    obtain⟨k,rfl⟩:∃ k,j=k+1:=⟨j-1,by omega⟩
    have hkl:k<path.length:=by omega
    obtain⟨key,hkey⟩:∃ key,path[k]?=some key:=⟨_,List.getElem?_eq_getElem hkl⟩
    obtain⟨bq,offq,hA5,hbq,hcq⟩:=p3 (by rintro rfl;simp at hpl1)
    subst hA5
    obtain⟨cs,⟨rfl,hkok⟩,_,hku⟩:=hcq k _ hkey
    have HKOK:=hid hkok
    rw[show (((k+1:Nat):Int)-1)=(k:Int) from by omega]
    obtain⟨T',HT'⟩:∃ q,Hid (tgetT t (path.take k)=q):=⟨_,rfl⟩
    obtain⟨UT,HU1⟩:∃ q,Hid (updT T' key XT XC=q):=⟨_,rfl⟩
    obtain⟨UC,HU2⟩:∃ q,Hid (updC T' key XT XC=q):=⟨_,rfl⟩
    obtain⟨UE,HU3⟩:∃ q,Hid (updE T' key XT XC=q):=⟨_,rfl⟩
    have HUX:Hid (updX t path k (XT,XC,0)=(UT,UC,UE)):=by
     unfold Hid updX
     rw[hkey]
     simp only[Option.getD_some]
     rw[HT'.out,HU1.out,HU2.out,HU3.out]
    have HUP:Hid (ZF t path k (UT,UC,UE)=P):=by
     have:=hup.out
     rw[ZF,if_pos rfl,HUX.out]at this
     exact this
    have hTs:T'.sz<=200:=by rw[←HT'.out,XR HT.out];exact Nat.le_trans (Q1 t _) hN
    have hus:=zX9 t path k (XT,XC,0)
    rw[HUX.out]at hus
    simp only at hus
    have HGr:=hid hGr
    have HY2:Hid (∀ W,Below wr.heap.size wr W->(t.rd W W.heap.size (.slice A3 t.es.length n3) (.slice A4 t.ks.length n4)/\SlP W W.heap.size 1 StE (.slice (some ⟨bq,offq,none⟩) path.length n5) path/\XT.rd W W.heap.size (.slice Aa' XT.es.length na') (.slice Ab' XT.ks.length nb')/\SlP W W.heap.size 3 SpE (.slice Ac' XC.length nc') XC)):=fun W hW=>by
     obtain⟨_,b,c⟩:=HY.out W (hbr.trans (hW.mono hbr.size))
     exact⟨b,c,QQ hrr (fun b hb=>hb.2) hW,hsr.slp (fun b hb=>hb.2) hW⟩
    have HK2:Hid (∀ W,Below wr.heap.size wr W->(W.cell? ⟨w.heap.size,0,none⟩=some (.slice A3 t.es.length n3)/\W.cell? ⟨w.heap.size,1,none⟩=some (.slice A4 t.ks.length n4)/\W.cell? ⟨w.heap.size+1,0,none⟩=some (.slice (some ⟨bq,offq,none⟩) path.length n5)/\W.cell? ⟨g,0,none⟩=some (.slice Aa' XT.es.length na')/\W.cell? ⟨g,1,none⟩=some (.slice Ab' XT.ks.length nb')/\W.cell? ⟨g,2,none⟩=some (.slice Ac' XC.length nc')/\W.cell? ⟨bq,offq+k,none⟩=some (.string key))):=fun W hW=>by
     obtain⟨a0,a1,a2,_⟩:=HKK.out W (hbr.trans (hW.mono hbr.size))
     have g1:=(hW.block g hgr).trans hGr
     have hBw:=(HY.out wr hbr).1
     exact⟨a0,a1,a2,Qa (i:=0) g1,Qa (i:=1) g1,Qa (i:=2) g1,(hW.cell (p:=⟨bq,offq+k,none⟩) (by show bq<_;have:=hBw.size;omega)).trans ((hBw.cell hbq).trans (by simpa using hku 0 _ rfl))⟩
    have hsr3:=hbr.size
    have hk5:k<=n5:=by omega
    have hk6:(k:Int)<=(n5:Int):=by omega
    have hk7:(k:Int)<=(path.length:Int):=by omega
    have hk8:(0:Int)<=(k:Int):=by omega
    have hk9:k<=path.length:=by omega
    have hk10:¬(n5<k):=by omega
    have HKQ:=HKK
    have HKU:Hid (w.cell? ⟨bq,offq+k,none⟩=some (.string key)):=hid (by simpa using hku 0 _ rfl)
    clear hku hcq p3 hkey hkok hup hGr hrr hsr HKK hG hrd hsl
    obtain⟨x0,x1,x2,x3,x4,x5,x6⟩:=HK2.out _ (Below.refl _ _)
    have HK4:Hid (∀ W,Below w3.heap.size w3 W->(W.cell? ⟨w.heap.size,0,none⟩=some (.slice A3 t.es.length n3)/\W.cell? ⟨w.heap.size,1,none⟩=some (.slice A4 t.ks.length n4)/\W.cell? ⟨w.heap.size+1,0,none⟩=some (.slice (some ⟨bq,offq,none⟩) path.length n5)/\W.cell? ⟨bq,offq+k,none⟩=some (.string key))):=fun W hW=>by
     obtain⟨a0,a1,a2,_⟩:=HKQ.out W hW
     have hBw:=(HY.out W hW).1
     exact⟨a0,a1,a2,(hBw.cell hbq).trans HKU.out⟩
    obtain⟨y0,y1,y2,y3,y4,y5,y6⟩:=HK2.out wr.drew ((Below.refl wr.heap.size wr).drew)
    go_upto_block 1 with (fail)
    go_cut [11] (fun s11 wx=>s11=.int .i64 UE/\BoxG w3.heap.size w3 29 UT UC (.pointer (some ⟨g,0,none⟩)) wx)
    case first=>
     go_upto_region 13 with (fail)
     refine wp_region_held_drew (S:=(fun W=>W.cell? ⟨w.heap.size,0,none⟩=some (.slice A3 t.es.length n3)/\W.cell? ⟨w.heap.size,1,none⟩=some (.slice A4 t.ks.length n4)/\W.cell? ⟨w.heap.size+1,0,none⟩=some (.slice (some ⟨bq,offq,none⟩) path.length n5)/\W.cell? ⟨bq,offq+k,none⟩=some (.string key))) (by kernel_rfl) ?_ (fun hHeld=>?_)
     ·go_keep
     refine wpAnyH_take (i:=0) (oi:=_) (v:=?v0) rfl (by kernel_rfl) (by kernel_rfl) (by kernel_rfl) (fun _ _ _ h=>h) (Or.inl ⟨by rfl,?h0⟩) (by assumption) ?_
     case h0=>(intro w hSw;(try dsimp only at hSw);go_simp;(try with_reducible rfl))
     simp only[Act.put,List.setIfInBounds_toArray,List.set_cons_zero,List.set_cons_succ,List.getElem_toArray,List.getElem_cons_zero]
     refine wpAnyH_take (i:=1) (oi:=_) (v:=?v1) rfl (by kernel_rfl) (by kernel_rfl) (by kernel_rfl) (fun _ _ _ h=>h) (Or.inl ⟨by rfl,?h1⟩) (by assumption) ?_
     case h1=>(intro w hSw;(try dsimp only at hSw);go_simp;(try with_reducible rfl))
     simp only[Act.put,List.setIfInBounds_toArray,List.set_cons_zero,List.set_cons_succ,List.getElem_toArray,List.getElem_cons_zero,List.getElem_cons_succ]
     refine wpAnyH_take (i:=2) (oi:=_) (v:=?v2) rfl (by kernel_rfl) (by kernel_rfl) (by kernel_rfl) (fun _ _ _ h=>h) (Or.inl ⟨by rfl,?h2⟩) (by assumption) ?_
     case h2=>(intro w hSw;(try dsimp only at hSw);go_simp;(try with_reducible rfl))
     simp only[Act.put,List.setIfInBounds_toArray,List.set_cons_zero,List.set_cons_succ,List.getElem_toArray,List.getElem_cons_zero,List.getElem_cons_succ]
     refine wpAnyH_take (i:=3) (oi:=_) (v:=?v3) rfl (by kernel_rfl) (by kernel_rfl) (by kernel_rfl) (fun _ _ _ h=>h) (Or.inl ⟨by rfl,?h3⟩) (by assumption) ?_
     case h3=>(intro w hSw;(try dsimp only at hSw);go_simp;(try with_reducible rfl))
     simp only[Act.put,List.setIfInBounds_toArray,List.set_cons_zero,List.set_cons_succ,List.getElem_toArray,List.getElem_cons_zero,List.getElem_cons_succ]
     refine wpAnyH_take (i:=4) (oi:=_) (v:=?v4) rfl (by kernel_rfl) (by kernel_rfl) (by kernel_rfl) (fun _ _ _ h=>h) (Or.inl ⟨by rfl,?h4⟩) (by assumption) ?_
     case h4=>(intro w hSw;(try dsimp only at hSw);go_simp;(try with_reducible rfl))
     simp only[Act.put,List.setIfInBounds_toArray,List.set_cons_zero,List.set_cons_succ,List.getElem_toArray,List.getElem_cons_zero,List.getElem_cons_succ]
     refine wpAnyH_take (i:=6) (oi:=_) (v:=?v6) rfl (by kernel_rfl) (by kernel_rfl) (by kernel_rfl) (fun _ _ _ h=>h) (Or.inl ⟨by rfl,?h6⟩) (by assumption) ?_
     case h6=>(intro w hSw;(try dsimp only at hSw);go_simp;(try with_reducible rfl))
     simp only[Act.put,List.setIfInBounds_toArray,List.set_cons_zero,List.set_cons_succ,List.getElem_toArray,List.getElem_cons_zero,List.getElem_cons_succ]
     refine wpAnyH_take (i:=7) (oi:=_) (v:=?v7) rfl (by kernel_rfl) (by kernel_rfl) (by kernel_rfl) (fun _ _ _ h=>h) (Or.inl ⟨by rfl,?h7⟩) (by assumption) ?_
     case h7=>(intro w hSw;(try dsimp only at hSw);go_simp;(try with_reducible rfl))
     simp only[Act.put,List.setIfInBounds_toArray,List.set_cons_zero,List.set_cons_succ,List.getElem_toArray,List.getElem_cons_zero,List.getElem_cons_succ]
     refine wpAnyH_take (i:=8) (oi:=_) (v:=?v8) rfl (by kernel_rfl) (by kernel_rfl) (by kernel_rfl) (fun _ _ _ h=>h) (Or.inl ⟨by rfl,?h8⟩) (by assumption) ?_
     case h8=>(intro w hSw;(try dsimp only at hSw);go_simp;(try with_reducible rfl))
     simp only[Act.put,List.setIfInBounds_toArray,List.set_cons_zero,List.set_cons_succ,List.getElem_toArray,List.getElem_cons_zero,List.getElem_cons_succ]
     refine wpAnyH_take (i:=9) (oi:=_) (v:=?v9) rfl (by kernel_rfl) (by kernel_rfl) (by kernel_rfl) (fun _ _ _ h=>h) (Or.inl ⟨by rfl,?h9⟩) (by assumption) ?_
     case h9=>(intro w hSw;(try dsimp only at hSw);go_simp;(try with_reducible rfl))
     simp only[Act.put,List.setIfInBounds_toArray,List.set_cons_zero,List.set_cons_succ,List.getElem_toArray,List.getElem_cons_zero,List.getElem_cons_succ]
     refine wpAnyH_take (i:=10) (oi:=_) (v:=?v10) rfl (by kernel_rfl) (by kernel_rfl) (by kernel_rfl) (fun _ _ _ h=>h) (Or.inl ⟨by rfl,?h10⟩) (by assumption) ?_
     case h10=>(intro w hSw;(try dsimp only at hSw);go_simp;(try with_reducible rfl))
     simp only[Act.put,List.setIfInBounds_toArray,List.set_cons_zero,List.set_cons_succ,List.getElem_toArray,List.getElem_cons_zero,List.getElem_cons_succ]
     refine wpAnyH_ready (rs:=[5,11]) (by kernel_rfl) (by simp) ?_
     refine AllReadyH.cons (o:=_) rfl (fun K hK=>?_) (AllReadyH.cons (o:=_) rfl (fun K hK=>?_) AllReadyH.nil)
     ·(go_simp;(go_at_call 83;go_loud ((refine (XA t (path.take k) _ _ _ _ (HY2.out _ (by go_grown)).1 ((HY2.out _ (by go_grown)).2.1.takeK (by omega)) (by omega)).mono ?_);rw[HT'.out];rintro e w4 ⟨xe4,xk4,rfl,hrd4,hb⟩;have hbr4:Hid (Below wr.heap.size wr w4):=hid (Below.trans (by go_grown) (hb.mono (by first|omega|(simp;done)|(simp;omega))));have hsr4:=hbr4.out.size;obtain⟨Ar4,nr4,Br4,mr4,hv1,hv2⟩:=Qj hrd4;subst hv1;subst hv2;have HRT:Hid (∀ W,Below w4.heap.size w4 W->T'.rd W W.heap.size (.slice Ar4 T'.es.length nr4) (.slice Br4 T'.ks.length mr4)):=fun W hW=>QQ hrd4 (fun b hb=>hb.2) hW;obtain⟨u0,u1,u2,u3,u4,u5,u6⟩:=HK2.out w4 hbr4.out;clear hb));go_wp2_with fail)
      refine hK.out _ _ ?_ (fun hHeld5=>?_)
      ·(first|go_keep|exact HK4.out _ ((((hbr.trans (hbr5.out.mono hsr3)).setCell hgm _).setCell hgm _).setCell hgm _)|exact HK4.out _ (hbr.trans (hbr5.out.mono hsr3))|exact HK4.out _ (hbr.trans ((hbr5.out.trans (by go_grown)).mono hsr3))|exact HK4.out _ (hbr.trans (hbr4.out.mono hsr3))|exact HK4.out _ (hbr.trans ((hbr4.out.trans (by go_grown)).mono hsr3))|exact HK4.out _ (hbr.trans (Below.mono (by go_grown) hsr3))|fail)
      clear hK K
      try simp only[Act.put,List.setIfInBounds_toArray,List.set_cons_zero,List.set_cons_succ,List.getElem_toArray,List.getElem_cons_zero,List.getElem_cons_succ]
      refine wpAnyH_ready (rs:=[11]) (by kernel_rfl) (by simp) ?_
      refine AllReadyH.cons (o:=_) rfl (fun K hK=>?_) AllReadyH.nil
      go_simp
      refine hK.out _ _ ?_ (fun hHeld11=>?_)
      ·(first|go_keep|exact HK4.out _ ((((hbr.trans (hbr5.out.mono hsr3)).setCell hgm _).setCell hgm _).setCell hgm _)|exact HK4.out _ (hbr.trans (hbr5.out.mono hsr3))|exact HK4.out _ (hbr.trans ((hbr5.out.trans (by go_grown)).mono hsr3))|exact HK4.out _ (hbr.trans (hbr4.out.mono hsr3))|exact HK4.out _ (hbr.trans ((hbr4.out.trans (by go_grown)).mono hsr3))|exact HK4.out _ (hbr.trans (Below.mono (by go_grown) hsr3))|fail)
      clear hK K
      try simp only[Act.put,List.setIfInBounds_toArray,List.set_cons_zero,List.set_cons_succ,List.getElem_toArray,List.getElem_cons_zero,List.getElem_cons_succ]
      refine wpAnyH_ready (rs:=[12]) (by kernel_rfl) (by simp) ?_
      refine AllReadyH.cons (o:=_) rfl (fun K hK=>?_) AllReadyH.nil
      (go_simp;(go_at_call 100;go_loud ((refine (Kh T' XT XC key _ _ _ _ _ _ (HRT.out _ (by go_grown)) (HY2.out _ (hbr4.out.trans (by go_grown))).2.2.1 (HY2.out _ (hbr4.out.trans (by go_grown))).2.2.2 HKOK.out (by omega) (by omega) (by omega)).mono ?_);rw[HU1.out,HU2.out,HU3.out];rintro e w5 ⟨xe5,xk5,xc5,rfl,hrd5,hsl5,hb⟩;have hbr5:Hid (Below wr.heap.size wr w5):=hid (Below.trans (hbr4.out.trans (by go_grown)) (hb.mono (by first|omega|(simp;done)|(simp;omega))));have hsr5:=hbr5.out.size;obtain⟨Ar5,nr5,Br5,mr5,hv1,hv2⟩:=Qj hrd5;subst hv1;subst hv2;obtain⟨Dr5,kr5,hv3⟩:=hsl5.shape;subst hv3;have HR5:=hid hrd5;have HL5:=hid hsl5;have HG5:=hid ((hbr5.out.block g hgr).trans HGr.out);obtain⟨v0,v1,v2,v3,v4,v5,v6⟩:=HK2.out w5 hbr5.out;have z0:=Qb (i:=0) HG5.out;have z1:=Qb (i:=1) HG5.out;have z2:=Qb (i:=2) HG5.out;clear hrd5 hsl5 hb));go_wp2_with fail)
      refine hK.out _ _ ?_ (fun hHeld12=>?_)
      ·(first|go_keep|exact HK4.out _ ((((hbr.trans (hbr5.out.mono hsr3)).setCell hgm _).setCell hgm _).setCell hgm _)|exact HK4.out _ (hbr.trans (hbr5.out.mono hsr3))|exact HK4.out _ (hbr.trans ((hbr5.out.trans (by go_grown)).mono hsr3))|exact HK4.out _ (hbr.trans (hbr4.out.mono hsr3))|exact HK4.out _ (hbr.trans ((hbr4.out.trans (by go_grown)).mono hsr3))|exact HK4.out _ (hbr.trans (Below.mono (by go_grown) hsr3))|fail)
      clear hK K
      try simp only[Act.put,List.setIfInBounds_toArray,List.set_cons_zero,List.set_cons_succ,List.getElem_toArray,List.getElem_cons_zero,List.getElem_cons_succ]
      refine wpAnyH_take (i:=13) (oi:=_) (v:=?v13) rfl (by kernel_rfl) (by kernel_rfl) (by kernel_rfl) (fun _ _ _ h=>h) (Or.inl ⟨by rfl,?h13⟩) (by assumption) ?_
      case h13=>(intro w hSw;(try dsimp only at hSw);go_simp;(try with_reducible rfl))
      simp only[Act.put,List.setIfInBounds_toArray,List.set_cons_zero,List.set_cons_succ,List.getElem_toArray,List.getElem_cons_zero,List.getElem_cons_succ]
      refine wpAnyH_take (i:=14) (oi:=_) (v:=?v14) rfl (by kernel_rfl) (by kernel_rfl) (by kernel_rfl) (fun _ _ _ h=>h) (Or.inl ⟨by rfl,?h14⟩) (by assumption) ?_
      case h14=>(intro w hSw;(try dsimp only at hSw);go_simp;(try with_reducible rfl))
      simp only[Act.put,List.setIfInBounds_toArray,List.set_cons_zero,List.set_cons_succ,List.getElem_toArray,List.getElem_cons_zero,List.getElem_cons_succ]
      refine wpAnyH_take (i:=15) (oi:=_) (v:=?v15) rfl (by kernel_rfl) (by kernel_rfl) (by kernel_rfl) (fun _ _ _ h=>h) (Or.inl ⟨by rfl,?h15⟩) (by assumption) ?_
      case h15=>(intro w hSw;(try dsimp only at hSw);go_simp;(try with_reducible rfl))
      simp only[Act.put,List.setIfInBounds_toArray,List.set_cons_zero,List.set_cons_succ,List.getElem_toArray,List.getElem_cons_zero,List.getElem_cons_succ]
      refine wpAnyH_ready (rs:=[16]) (by kernel_rfl) (by simp) ?_
      refine AllReadyH.cons (o:=_) rfl (fun K hK=>?_) AllReadyH.nil
      go_simp
      refine hK.out _ _ ?_ (fun hHeld16=>?_)
      ·(first|go_keep|exact HK4.out _ ((((hbr.trans (hbr5.out.mono hsr3)).setCell hgm _).setCell hgm _).setCell hgm _)|exact HK4.out _ (hbr.trans (hbr5.out.mono hsr3))|exact HK4.out _ (hbr.trans ((hbr5.out.trans (by go_grown)).mono hsr3))|exact HK4.out _ (hbr.trans (hbr4.out.mono hsr3))|exact HK4.out _ (hbr.trans ((hbr4.out.trans (by go_grown)).mono hsr3))|exact HK4.out _ (hbr.trans (Below.mono (by go_grown) hsr3))|fail)
      clear hK K
      try simp only[Act.put,List.setIfInBounds_toArray,List.set_cons_zero,List.set_cons_succ,List.getElem_toArray,List.getElem_cons_zero,List.getElem_cons_succ]
      refine wpAnyH_take (i:=17) (oi:=_) (v:=?v17) rfl (by kernel_rfl) (by kernel_rfl) (by kernel_rfl) (fun _ _ _ h=>h) (Or.inl ⟨by rfl,?h17⟩) (by assumption) ?_
      case h17=>(intro w hSw;(try dsimp only at hSw);go_simp;(try with_reducible rfl))
      simp only[Act.put,List.setIfInBounds_toArray,List.set_cons_zero,List.set_cons_succ,List.getElem_toArray,List.getElem_cons_zero,List.getElem_cons_succ]
      refine wpAnyH_done (by kernel_rfl) ?_ _
      go_wp2_with fail
      go_meet
      case rel=>exact⟨rfl,Y8 HG5.out (hbr.trans (hbr5.out.mono (by omega))) hgm (by first|omega|(simp;omega)) HR5.out HL5.out⟩
     ·go_simp
      refine hK.out _ _ ?_ (fun hHeld11=>?_)
      ·(first|go_keep|exact HK4.out _ ((((hbr.trans (hbr5.out.mono hsr3)).setCell hgm _).setCell hgm _).setCell hgm _)|exact HK4.out _ (hbr.trans (hbr5.out.mono hsr3))|exact HK4.out _ (hbr.trans ((hbr5.out.trans (by go_grown)).mono hsr3))|exact HK4.out _ (hbr.trans (hbr4.out.mono hsr3))|exact HK4.out _ (hbr.trans ((hbr4.out.trans (by go_grown)).mono hsr3))|exact HK4.out _ (hbr.trans (Below.mono (by go_grown) hsr3))|fail)
      clear hK K
      try simp only[Act.put,List.setIfInBounds_toArray,List.set_cons_zero,List.set_cons_succ,List.getElem_toArray,List.getElem_cons_zero,List.getElem_cons_succ]
      refine wpAnyH_ready (rs:=[5]) (by kernel_rfl) (by simp) ?_
      refine AllReadyH.cons (o:=_) rfl (fun K hK=>?_) AllReadyH.nil
      (go_simp;(go_at_call 83;go_loud ((refine (XA t (path.take k) _ _ _ _ (HY2.out _ (by go_grown)).1 ((HY2.out _ (by go_grown)).2.1.takeK (by omega)) (by omega)).mono ?_);rw[HT'.out];rintro e w4 ⟨xe4,xk4,rfl,hrd4,hb⟩;have hbr4:Hid (Below wr.heap.size wr w4):=hid (Below.trans (by go_grown) (hb.mono (by first|omega|(simp;done)|(simp;omega))));have hsr4:=hbr4.out.size;obtain⟨Ar4,nr4,Br4,mr4,hv1,hv2⟩:=Qj hrd4;subst hv1;subst hv2;have HRT:Hid (∀ W,Below w4.heap.size w4 W->T'.rd W W.heap.size (.slice Ar4 T'.es.length nr4) (.slice Br4 T'.ks.length mr4)):=fun W hW=>QQ hrd4 (fun b hb=>hb.2) hW;obtain⟨u0,u1,u2,u3,u4,u5,u6⟩:=HK2.out w4 hbr4.out;clear hb));go_wp2_with fail)
      refine hK.out _ _ ?_ (fun hHeld5=>?_)
      ·(first|go_keep|exact HK4.out _ ((((hbr.trans (hbr5.out.mono hsr3)).setCell hgm _).setCell hgm _).setCell hgm _)|exact HK4.out _ (hbr.trans (hbr5.out.mono hsr3))|exact HK4.out _ (hbr.trans ((hbr5.out.trans (by go_grown)).mono hsr3))|exact HK4.out _ (hbr.trans (hbr4.out.mono hsr3))|exact HK4.out _ (hbr.trans ((hbr4.out.trans (by go_grown)).mono hsr3))|exact HK4.out _ (hbr.trans (Below.mono (by go_grown) hsr3))|fail)
      clear hK K
      try simp only[Act.put,List.setIfInBounds_toArray,List.set_cons_zero,List.set_cons_succ,List.getElem_toArray,List.getElem_cons_zero,List.getElem_cons_succ]
      refine wpAnyH_ready (rs:=[12]) (by kernel_rfl) (by simp) ?_
      refine AllReadyH.cons (o:=_) rfl (fun K hK=>?_) AllReadyH.nil
      (go_simp;(go_at_call 100;go_loud ((refine (Kh T' XT XC key _ _ _ _ _ _ (HRT.out _ (by go_grown)) (HY2.out _ (hbr4.out.trans (by go_grown))).2.2.1 (HY2.out _ (hbr4.out.trans (by go_grown))).2.2.2 HKOK.out (by omega) (by omega) (by omega)).mono ?_);rw[HU1.out,HU2.out,HU3.out];rintro e w5 ⟨xe5,xk5,xc5,rfl,hrd5,hsl5,hb⟩;have hbr5:Hid (Below wr.heap.size wr w5):=hid (Below.trans (hbr4.out.trans (by go_grown)) (hb.mono (by first|omega|(simp;done)|(simp;omega))));have hsr5:=hbr5.out.size;obtain⟨Ar5,nr5,Br5,mr5,hv1,hv2⟩:=Qj hrd5;subst hv1;subst hv2;obtain⟨Dr5,kr5,hv3⟩:=hsl5.shape;subst hv3;have HR5:=hid hrd5;have HL5:=hid hsl5;have HG5:=hid ((hbr5.out.block g hgr).trans HGr.out);obtain⟨v0,v1,v2,v3,v4,v5,v6⟩:=HK2.out w5 hbr5.out;have z0:=Qb (i:=0) HG5.out;have z1:=Qb (i:=1) HG5.out;have z2:=Qb (i:=2) HG5.out;clear hrd5 hsl5 hb));go_wp2_with fail)
      refine hK.out _ _ ?_ (fun hHeld12=>?_)
      ·(first|go_keep|exact HK4.out _ ((((hbr.trans (hbr5.out.mono hsr3)).setCell hgm _).setCell hgm _).setCell hgm _)|exact HK4.out _ (hbr.trans (hbr5.out.mono hsr3))|exact HK4.out _ (hbr.trans ((hbr5.out.trans (by go_grown)).mono hsr3))|exact HK4.out _ (hbr.trans (hbr4.out.mono hsr3))|exact HK4.out _ (hbr.trans ((hbr4.out.trans (by go_grown)).mono hsr3))|exact HK4.out _ (hbr.trans (Below.mono (by go_grown) hsr3))|fail)
      clear hK K
      try simp only[Act.put,List.setIfInBounds_toArray,List.set_cons_zero,List.set_cons_succ,List.getElem_toArray,List.getElem_cons_zero,List.getElem_cons_succ]
      refine wpAnyH_take (i:=13) (oi:=_) (v:=?vb13) rfl (by kernel_rfl) (by kernel_rfl) (by kernel_rfl) (fun _ _ _ h=>h) (Or.inl ⟨by rfl,?hb13⟩) (by assumption) ?_
      case hb13=>(intro w hSw;(try dsimp only at hSw);go_simp;(try with_reducible rfl))
      simp only[Act.put,List.setIfInBounds_toArray,List.set_cons_zero,List.set_cons_succ,List.getElem_toArray,List.getElem_cons_zero,List.getElem_cons_succ]
      refine wpAnyH_take (i:=14) (oi:=_) (v:=?vb14) rfl (by kernel_rfl) (by kernel_rfl) (by kernel_rfl) (fun _ _ _ h=>h) (Or.inl ⟨by rfl,?hb14⟩) (by assumption) ?_
      case hb14=>(intro w hSw;(try dsimp only at hSw);go_simp;(try with_reducible rfl))
      simp only[Act.put,List.setIfInBounds_toArray,List.set_cons_zero,List.set_cons_succ,List.getElem_toArray,List.getElem_cons_zero,List.getElem_cons_succ]
      refine wpAnyH_take (i:=15) (oi:=_) (v:=?vb15) rfl (by kernel_rfl) (by kernel_rfl) (by kernel_rfl) (fun _ _ _ h=>h) (Or.inl ⟨by rfl,?hb15⟩) (by assumption) ?_
      case hb15=>(intro w hSw;(try dsimp only at hSw);go_simp;(try with_reducible rfl))
      simp only[Act.put,List.setIfInBounds_toArray,List.set_cons_zero,List.set_cons_succ,List.getElem_toArray,List.getElem_cons_zero,List.getElem_cons_succ]
      refine wpAnyH_ready (rs:=[16]) (by kernel_rfl) (by simp) ?_
      refine AllReadyH.cons (o:=_) rfl (fun K hK=>?_) AllReadyH.nil
      go_simp
      refine hK.out _ _ ?_ (fun hHeld16=>?_)
      ·(first|go_keep|exact HK4.out _ ((((hbr.trans (hbr5.out.mono hsr3)).setCell hgm _).setCell hgm _).setCell hgm _)|exact HK4.out _ (hbr.trans (hbr5.out.mono hsr3))|exact HK4.out _ (hbr.trans ((hbr5.out.trans (by go_grown)).mono hsr3))|exact HK4.out _ (hbr.trans (hbr4.out.mono hsr3))|exact HK4.out _ (hbr.trans ((hbr4.out.trans (by go_grown)).mono hsr3))|exact HK4.out _ (hbr.trans (Below.mono (by go_grown) hsr3))|fail)
      clear hK K
      try simp only[Act.put,List.setIfInBounds_toArray,List.set_cons_zero,List.set_cons_succ,List.getElem_toArray,List.getElem_cons_zero,List.getElem_cons_succ]
      refine wpAnyH_take (i:=17) (oi:=_) (v:=?vb17) rfl (by kernel_rfl) (by kernel_rfl) (by kernel_rfl) (fun _ _ _ h=>h) (Or.inl ⟨by rfl,?hb17⟩) (by assumption) ?_
      case hb17=>(intro w hSw;(try dsimp only at hSw);go_simp;(try with_reducible rfl))
      simp only[Act.put,List.setIfInBounds_toArray,List.set_cons_zero,List.set_cons_succ,List.getElem_toArray,List.getElem_cons_zero,List.getElem_cons_succ]
      refine wpAnyH_done (by kernel_rfl) ?_ _
      go_wp2_with fail
      go_meet
      case rel=>exact⟨rfl,Y8 HG5.out (hbr.trans (hbr5.out.mono (by omega))) hgm (by first|omega|(simp;omega)) HR5.out HL5.out⟩
    case rest=>
     obtain⟨rfl,g',hgg,_,xa',xb',xd',hG',hr',hs',hbz'⟩:=hcut
     simp only[Value.pointer.injEq,Option.some.injEq,Addr.mk.injEq]at hgg
     obtain⟨rfl,_⟩:=hgg
     go_wp2_with fail
     go_roundw
     case rel=>exact⟨k,(UT,UC,UE),by omega,by go_num,rfl,HUP.out,by simp only;omega,by simp only;omega,⟨_,_,_,hG',hr',hs'⟩,hbz'⟩
     case measure=>first|(simp[intOf];done)|(simp[intOf];omega)
end Go.Proofs.YtbcoelggdikipaaGreat
