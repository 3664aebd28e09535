/- What the laws need. No condition but those that each lemma states. -/
import Derived.Test.YtbcoelggdikipaaGreatUw11
import Derived.Test.YtbcoelggdikipaaGreatUw14
import Derived.Test.YtbcoelggdikipaaGreatUw9
import Derived.Test.YtbcoelggdikipaaGreatUw2
import Derived.Test.YtbcoelggdikipaaGreatUw13
import Derived.Test.YtbcoelggdikipaaGreatUw3
import Derived.Test.YtbcoelggdikipaaGreatUw4
import Derived.Test.YtbcoelggdikipaaGreatUw5
import Derived.Test.YtbcoelggdikipaaGreatUw8
import Derived.Test.YtbcoelggdikipaaGreatUw10
set_option maxRecDepth 100000
set_option maxHeartbeats 8000000
set_option linter.unusedSimpArgs false
namespace Go.Proofs.YtbcoelggdikipaaGreat
open Go.RowKit
def doI (N:Kn)(n:Nat)(o:Opr):Int:=if 12<=n then 4 else appI N.1 o (txD n)
def doK (N:Kn)(n:Nat)(o:Opr):Kn:=if doI N n o=0 then aftK N o (txD n) else N
def doO (N:Kn)(ops:List Opr)(o:Opr):List Opr:=if doI N ops.length o=0 then ops++[o] else ops
structure DoR (w:World)(g:Nat)(okp:Nat->Prop)(v:Nat->V3)(vo:Value)(G N:Kn)(ops:List Opr)(o:Opr)(e:Ending)(w':World):Prop where
 ret:e=.returned (.int .i64 (doI N ops.length o))
 st:∃ v' vo',TxB w' g (fun b=>okp b∨w.heap.size<=b) v' vo' G (doK N ops.length o) (doO N ops o)/\v' 0=v 0/\(vo'.ownBlock=vo.ownBlock∨∃ b,vo'.ownBlock=some b/\w.heap.size<=b)
 keep:∀ b,b<w.heap.size->b≠g->vo.ownBlock≠some b->w'.heap[b]?=w.heap[b]?
 below:Below g w w'
theorem DoR.no {w w':World}{g:Nat}{okp:Nat->Prop}{v:Nat->V3}{vo:Value}{G N:Kn}{ops:List Opr}{o:Opr}(h:TxB w g okp v vo G N ops)(hz:doI N ops.length o≠0)(hb:Below w.heap.size w w'):DoR w g okp v vo G N ops o (.returned (.int .i64 (doI N ops.length o))) w':=by
 refine⟨rfl,⟨v,vo,?_,rfl,.inl rfl⟩,fun b hl _ _=>hb.block b hl,hb.mono (Nat.le_of_lt h.lt)⟩
 have e1:doK N ops.length o=N:=if_neg hz
 have e2:doO N ops o=ops:=if_neg hz
 rw[e1,e2]
 exact h.keep (fun b _ hl=>hb.block b hl) hb.size fun b hb _=>.inl hb
def okW (w:World)(g:Nat)(okp:Nat->Prop)(b:Nat):Prop:=(okp b∨w.heap.size<=b)/\b≠g
section
variable {w w5 w6:World}{g:Nat}{okp:Nat->Prop}{v:Nat->V3}{vo v1 vp a b c:Value}{G N X:Kn}{ops:List Opr}{o:Opr}
theorem qW7 (h:TxB w g okp v vo G N ops){W:World}(hb:Below w.heap.size w W):OwnD W (g+1) 65 4 OpA (okW w g okp) vo ops:=
 OwnD.weak (OwnD.grow h.own OpA.mon hb) OpA.mon fun _ hb=>⟨.inl hb.1,hb.2⟩
theorem qW8 (h:TxB w g okp v vo G N ops)(hb:Below w.heap.size w w5){A:Option Addr}{n:Nat}(hs:SlA w5 (fun b=>w.heap.size<=b/\b<w5.heap.size) 1 StE (.slice A o.path.length n) o.path)(ho:o.Ok) :
  SlP (w5.alloc (.cells #[.slice A o.path.length n,.int .i64 o.act,.string o.s,.int .i64 o.n] 65)) (w5.alloc (.cells #[.slice A o.path.length n,.int .i64 o.act,.string o.s,.int .i64 o.n] 65)).heap.size 4 (OpA (w5.alloc (.cells #[.slice A o.path.length n,.int .i64 o.act,.string o.s,.int .i64 o.n] 65)) (fun b=>okW w g okp b/\b<(w5.alloc (.cells #[.slice A o.path.length n,.int .i64 o.act,.string o.s,.int .i64 o.n] 65)).heap.size/\vo.ownBlock≠some b)) (.slice (some ⟨w5.heap.size,0,none⟩) 1 1) [o]:=by
 have hgl:=h.lt
 have hsz:=hb.size
 have hown:=h.own.lt
 refine SlP.oneB (w:=w5) ⟨_,_,rfl,?_,ho⟩ rfl _ rfl (by simp)
 exact hs.up (fun b hb=>Qg hb.2) (fun b hb=>⟨⟨.inr hb.1,by omega⟩,by rw[World.size_alloc];omega,fun e=>by have:=(hown b e).2;omega⟩) fun _ _ _ h=>h
theorem qW9 (h:TxB w g okp v vo G N ops){W:World}(hb:Below w.heap.size w W){m:Nat}(hr:X.1.rda W (fun k=>w.heap.size<=k/\k<W.heap.size) a b)(hc:SlA W (fun k=>w.heap.size<=k/\k<W.heap.size) 3 SpE c X.2)
  (hown:OwnD w6 (g+1) 65 4 OpA (okW w g okp) v1 (ops++[o])) (hg:W.grownBy w6 vo.ownBlock) (hv:v1.ownBlock=vo.ownBlock∨v1.ownBlock=some W.heap.size) (hz:doI N ops.length o=0) (hX:X=aftK N o (txD ops.length)) (hm:m=0) :
  w6.heap[g]?=w.heap[g]?/\DoR w g okp v vo G N ops o (.returned (.int .i64 m)) ((((w6.setCell ⟨g,3,none⟩ a).setCell ⟨g,4,none⟩ b).setCell ⟨g,5,none⟩ c).setCell ⟨g,6,none⟩ v1):=by
 have hgl:=h.lt
 have hsz:=hb.size
 have ho:=h.own.lt
 have hs6:=hg.size
 have hgk:w6.heap[g]?=w.heap[g]?:=(hg.block g (by omega) (fun e=>by have:=(ho g e.symm).1;omega)).trans (hb.block g hgl)
 have hkp:∀ k,k<w.heap.size->k≠g->vo.ownBlock≠some k->w6.heap[k]?=w.heap[k]?:=fun k h1 _ h3=>(hg.block k (by omega) (Ne.symm h3)).trans (hb.block k h1)
 have hvv:v1.ownBlock=vo.ownBlock∨∃ k,v1.ownBlock=some k/\w.heap.size<=k:=hv.imp (fun e=>e) fun e=>⟨_,e,hsz⟩
 have hn1:∀ k,w.heap.size<=k->k<W.heap.size->v1.ownBlock≠some k:=fun k h1 h2=>by
  rcases hv with e|e
  ·rw[e];intro e2;have:=(ho k e2).2;omega
  ·rw[e];intro e2;simp only[Option.some.injEq]at e2;omega
 have k1:∀ k,(w.heap.size<=k/\k<W.heap.size)->w6.heap[k]?=W.heap[k]?:=fun k hk=>hg.block k hk.2 fun e=>by have:=(ho k e.symm).2;omega
 have k2:∀ k,(w.heap.size<=k/\k<W.heap.size)->(w.heap.size<=k/\k<w6.heap.size/\v1.ownBlock≠some k):=fun k hk=>⟨hk.1,by omega,hn1 k hk.1 hk.2⟩
 have hst:=h.set (w':=w6) (vo':=v1) (N':=X) (ops':=ops++[o]) (a:=a) (b:=b) (c:=c) hgk hkp (by omega) hvv (Qs k1 k2 _ _ _ hr) (hc.up k1 k2 fun _ _ _ h=>h) hown
 have e1:doK N ops.length o=X:=by unfold doK;rw[if_pos hz,hX]
 have e2:doO N ops o=ops++[o]:=if_pos hz
 have hK:∀ k,k≠g->((((w6.setCell ⟨g,3,none⟩ a).setCell ⟨g,4,none⟩ b).setCell ⟨g,5,none⟩ c).setCell ⟨g,6,none⟩ v1).heap[k]?=w6.heap[k]?:=fun k hk=>(Below.heap_setCell _ _ _ _ hk).trans ((Below.heap_setCell _ _ _ _ hk).trans ((Below.heap_setCell _ _ _ _ hk).trans (Below.heap_setCell _ _ _ _ hk)))
 have hbl:Below g w w6:=(hb.mono (Nat.le_of_lt hgl)).grown hg (by omega) (fun q hq=>Nat.le_of_lt (ho q hq).1)
 refine⟨hgk,by rw[hz,hm];rfl,⟨_,v1,by rw[e1,e2];exact hst,by simp,hvv⟩,fun k h1 h2 h3=>(hK k h2).trans (hkp k h1 h2 h3),(((hbl.setCell (Nat.le_refl _) _).setCell (Nat.le_refl _) _).setCell (Nat.le_refl _) _).setCell (Nat.le_refl _) _⟩
end
theorem qY5 {G N:Kn}{ops:List Opr}{g:Nat}{okp:Nat->Prop}{v:Nat->V3}{vo:Value}(o:Opr)(vp:Value)(w:World)(h:TxB w g okp v vo G N ops)(hN:KOk N)(z1:N.1.sz<=200)(z2:N.2.length<=9000)(hl:ops.length<=12)
  (hp:SlA w (fun b=>b≠g/\b<w.heap.size/\vo.ownBlock≠some b) 1 StE vp o.path) (ho:o.Ok) (hpl:o.path.length<=1000) :
  Calls Tryz.prog 29 #[.pointer (some ⟨g,0,none⟩),.agg #[vp,.int .i64 o.act,.string o.s,.int .i64 o.n]] w (DoR w g okp v vo G N ops o):=by
 obtain⟨A5,c5,hvp⟩:=hp.shape
 subst hvp
 obtain⟨path,act,s,nn⟩:=o
 simp only at hp ho hpl ⊢
 have HST:=hid h
 have HN:=hid hN
 have HP:=hid hp
 have HO:=hid ho
 have hgl:=h.lt
 obtain⟨Ao,no,hvo⟩:=OwnP.shape h.own
 subst hvo
 obtain⟨a0,b0,c0,hv0⟩:∃ a b c,v 0=(a,b,c):=⟨_,_,_,rfl⟩
 obtain⟨a1,b1,c1,hv1⟩:∃ a b c,v 1=(a,b,c):=⟨_,_,_,rfl⟩
 have hrN:=h.rdN
 have hsN:=h.slN
 rw[hv1]at hrN hsN
 obtain⟨An,nn1,Bn,mn,e1,e2⟩:=Qj hrN
 obtain⟨Cn,kn,e3,_⟩:=hsN
 simp only at e1 e2 e3
 subst e1;subst e2;subst e3
 have HV1:=hid hv1
 have HXW:Hid (∀ W,Below w.heap.size w W->(W.cell? ⟨g,3,none⟩=some (.slice An N.1.es.length nn1)/\W.cell? ⟨g,4,none⟩=some (.slice Bn N.1.ks.length mn)/\W.cell? ⟨g,5,none⟩=some (.slice Cn N.2.length kn)/\W.cell? ⟨g,6,none⟩=some (.slice Ao ops.length no))):=fun W hW=>by
  obtain⟨_,_,_,d3,d4,d5,d6⟩:=(HST.out.grow hW).cells
  rw[HV1.out]at d3 d4 d5
  exact⟨d3,d4,d5,d6⟩
 have HRW:Hid (∀ W,Below w.heap.size w W->(N.1.rd W W.heap.size (.slice An N.1.es.length nn1) (.slice Bn N.1.ks.length mn)/\SlP W W.heap.size 3 SpE (.slice Cn N.2.length kn) N.2/\SlP W W.heap.size 1 StE (.slice A5 path.length c5) path)):=fun W hW=>by
  have hs:=HST.out.grow hW
  have r1:=hs.rdN
  have r2:=hs.slN
  rw[HV1.out]at r1 r2
  exact⟨r1,r2,HP.out.slp (fun b hb=>hb.2.1) hW⟩
 have HX:Hid (∀ W,Below (w.heap.size+1) (w.alloc (.cells #[.slice A5 path.length c5,.int .i64 act,.string s,.int .i64 nn] 65)) W->(Below w.heap.size w W/\W.cell? ⟨w.heap.size,0,none⟩=some (.slice A5 path.length c5)/\W.cell? ⟨w.heap.size,1,none⟩=some (.int .i64 act)/\W.cell? ⟨w.heap.size,2,none⟩=some (.string s)/\W.cell? ⟨w.heap.size,3,none⟩=some (.int .i64 nn))):=fun W hW=>by
  have g0:=(hW.block w.heap.size (by omega)).trans (Qd rfl)
  exact⟨((Below.refl _ w).alloc (Nat.le_refl _) _).trans (hW.mono (by omega)),Qa (i:=0) g0,Qa (i:=1) g0,Qa (i:=2) g0,Qa (i:=3) g0⟩
 clear h hN hp ho hrN hv0 hv1
 go_enter Tryz.func29,Tryz.ntmps29
 obtain⟨hB,q0,q1,q2,q3⟩:=HX.out _ (Below.refl _ _)
 obtain⟨y0,y1,y2,y3⟩:=HXW.out _ hB
 have hgw:g≠w.heap.size:=by omega
 have hgw':w.heap.size≠g:=by omega
 by_cases hf:12<=ops.length
 ·have HD:Hid (doI N ops.length ⟨path,act,s,nn⟩=4):=hid (if_pos hf)
  have hfi:(12:Int)<=(ops.length:Int):=by omega
  go_wp2_with fail
  go_ret
  have hd:=DoR.no (o:=⟨path,act,s,nn⟩) HST.out (by rw[HD.out];decide) hB
  rw[HD.out]at hd
  exact hd
 have hfi:¬((12:Int)<=(ops.length:Int)):=by omega
 obtain⟨P,hPe⟩:∃ P,P=appI N.1 ⟨path,act,s,nn⟩ (txD ops.length):=⟨_,rfl⟩
 obtain⟨PT,hPT⟩:∃ P,P=appT N.1 ⟨path,act,s,nn⟩ (txD ops.length):=⟨_,rfl⟩
 obtain⟨PC,hPC⟩:∃ P,P=appC N.1 ⟨path,act,s,nn⟩ (txD ops.length):=⟨_,rfl⟩
 have HPe:=hid hPe
 have HPT:=hid hPT
 have HPC:=hid hPC
 have HD:Hid (doI N ops.length ⟨path,act,s,nn⟩=P):=by unfold Hid doI;rw[if_neg hf,hPe]
 have HDO:Hid (Dt.Ok (txD ops.length)):=⟨by unfold txD I64;simp only;omega,by unfold txD I64;simp only;omega⟩
 have htd:txD ops.length=⟨0,1099511627765+(ops.length:Int)⟩:=rfl
 rw[htd]at HDO HPe HPT HPC
 have hwr:IntKind.i64.wrap (1099511627765+(ops.length:Int))=1099511627765+(ops.length:Int):=IntWalk.i64_in _ (by omega)
 clear hPe hPT hPC htd
 go_upto_region 5 with (fail)
 have HWW:Hid (Below w.heap.size w (w.alloc (.cells #[.slice A5 path.length c5,.int .i64 act,.string s,.int .i64 nn] 65))):=hid hB
 obtain⟨w2,hw2⟩:∃ z,z=w.alloc (.cells #[.slice A5 path.length c5,.int .i64 act,.string s,.int .i64 nn] 65):=⟨_,rfl⟩
 have hs2:w2.heap.size=w.heap.size+1:=by rw[hw2];simp
 have HX2:Hid (∀ W,Below w2.heap.size w2 W->(Below w.heap.size w W/\W.cell? ⟨w.heap.size,0,none⟩=some (.slice A5 path.length c5)/\W.cell? ⟨w.heap.size,1,none⟩=some (.int .i64 act)/\W.cell? ⟨w.heap.size,2,none⟩=some (.string s)/\W.cell? ⟨w.heap.size,3,none⟩=some (.int .i64 nn))):=fun W hW=>by
  refine HX.out W ?_
  rw[←hw2,←hs2];exact hW
 rw[←hw2]at hB q0 q1 q2 q3 y0 y1 y2 y3 ⊢
 have hs2a:w.heap.size+1<=w2.heap.size:=by omega
 clear hw2 HX HWW hB hs2
 have hgw2:g≠w2.heap.size:=by omega
 have hgw2':w2.heap.size≠g:=by omega
 have hww:w.heap.size≠w2.heap.size:=by omega
 have hww':w2.heap.size≠w.heap.size:=by omega
 have HKK:Hid (∀ W,Below w2.heap.size w2 W->(W.cell? ⟨g,3,none⟩=some (.slice An N.1.es.length nn1)/\W.cell? ⟨g,4,none⟩=some (.slice Bn N.1.ks.length mn)/\W.cell? ⟨g,6,none⟩=some (.slice Ao ops.length no)/\W.cell? ⟨w.heap.size,0,none⟩=some (.slice A5 path.length c5)/\W.cell? ⟨w.heap.size,1,none⟩=some (.int .i64 act)/\W.cell? ⟨w.heap.size,2,none⟩=some (.string s)/\W.cell? ⟨w.heap.size,3,none⟩=some (.int .i64 nn))):=fun W hW=>by
  obtain⟨hB,q0,q1,q2,q3⟩:=HX2.out W hW
  obtain⟨y0,y1,_,y3⟩:=HXW.out W hB
  exact⟨y0,y1,y3,q0,q1,q2,q3⟩
 go_cut [5,6] (fun s9 s10 wx=>s10=.int .i64 P/\BoxG w2.heap.size w2 29 PT PC s9 wx)
 case first=>
  go_region_held3 (fun W=>W.cell? ⟨g,3,none⟩=some (.slice An N.1.es.length nn1)/\W.cell? ⟨g,4,none⟩=some (.slice Bn N.1.ks.length mn)/\W.cell? ⟨g,6,none⟩=some (.slice Ao ops.length no)/\W.cell? ⟨w.heap.size,0,none⟩=some (.slice A5 path.length c5)/\W.cell? ⟨w.heap.size,1,none⟩=some (.int .i64 act)/\W.cell? ⟨w.heap.size,2,none⟩=some (.string s)/\W.cell? ⟨w.heap.size,3,none⟩=some (.int .i64 nn))
   (first|go_keep|exact HKK.out _ hbr4.out|exact HKK.out _ (hbr4.out.trans (by go_grown))|exact HKK.out _ (((hbr4.out.setCell (by first|(simp;done)|(simp;omega)) _).setCell (by first|(simp;done)|(simp;omega)) _).setCell (by first|(simp;done)|(simp;omega)) _)|exact HKK.out _ (by go_grown)|fail)
   (first
    |(go_at_call 61;go_loud ((refine (qZ7 N.1 ⟨path,act,s,nn⟩ ⟨0,1099511627765+(ops.length:Int)⟩ _ _ _ _ (HRW.out _ (HX2.out _ (by go_grown)).1).1 (HRW.out _ (HX2.out _ (by go_grown)).1).2.2 HO.out HDO.out (by omega)).mono ?_);rw[←HPe.out,←HPT.out,←HPC.out];rintro e w4 ⟨xe4,xk4,xc4,rfl,hrd4,hsl4,hb⟩;have hbr4:Hid (Below w2.heap.size w2 w4):=hid (Below.trans (by go_grown) (hb.mono (by first|omega|(simp;done)|(simp;omega))));have hsr4:=hbr4.out.size;obtain⟨Ar4,nr4,Br4,mr4,hv1,hv2⟩:=Ql hrd4;subst hv1;subst hv2;obtain⟨Dr4,kr4,hv3⟩:=hsl4.shape;subst hv3;have HR4:=hid hrd4;have HL4:=hid hsl4;clear hrd4 hsl4;(first|(have HG4:Hid (w4.heap[w2.heap.size]?=some (.cells #[.slice none 0 0,.slice none 0 0,.slice none 0 0] 29 (0,0))):=hid (qYz hb);have k0:w4.cell? ⟨w2.heap.size,0,none⟩=some (.slice none 0 0):=Qa (i:=0) HG4.out;have k1:w4.cell? ⟨w2.heap.size,1,none⟩=some (.slice none 0 0):=Qa (i:=1) HG4.out;have k2:w4.cell? ⟨w2.heap.size,2,none⟩=some (.slice none 0 0):=Qa (i:=2) HG4.out;have z0:=Qb (i:=0) HG4.out;have z1:=Qb (i:=1) HG4.out;have z2:=Qb (i:=2) HG4.out)|(have HG4:Hid (w4.heap[w2.heap.size]?=some (.cells #[.slice none 0 0,.slice none 0 0,.slice none 0 0] 29 (0,0))):=hid (z_new hb);have k0:w4.cell? ⟨w2.heap.size,0,none⟩=some (.slice none 0 0):=Qa (i:=0) HG4.out;have k1:w4.cell? ⟨w2.heap.size,1,none⟩=some (.slice none 0 0):=Qa (i:=1) HG4.out;have k2:w4.cell? ⟨w2.heap.size,2,none⟩=some (.slice none 0 0):=Qa (i:=2) HG4.out;have z0:=Qb (i:=0) HG4.out;have z1:=Qb (i:=1) HG4.out;have z2:=Qb (i:=2) HG4.out)|skip);clear hb)))
  all_goals
   go_wp2_with fail
   go_meet
   case rel=>exact⟨rfl,(by first|exact JB hbr4.out hsr4 (by first|omega|(simp;done)|(simp;omega)) HR4.out HL4.out|exact XR HG4.out hbr4.out (by omega) (by first|(simp;done)|(simp;omega)) HR4.out HL4.out)⟩
 case rest=>
  obtain⟨rfl,q9,rfl,hq9,xe,xk,xc,hG,hrd,hsl,hbz⟩:=hcut
  obtain⟨w3,hw3⟩:∃ z:World,z=wc:=⟨wc,rfl⟩
  subst hw3
  have hs9:=lt_of_block hG
  have hs3:=hbz.size
  have HB3:=hid hbz
  have HG9:=hid hG
  have HR9:=hid hrd
  have HS9:=hid hsl
  have hBW3:=(HX2.out _ hbz).1
  have HBW3:=hid hBW3
  clear hBW3
  by_cases hP:P=0
  case neg=>
   have hPn:(P != 0)=true:=by simpa using hP
   have hd:=DoR.no (o:=⟨path,act,s,nn⟩) HST.out (by rw[HD.out];exact hP) HBW3.out
   rw[HD.out]at hd
   have HDD:=hid hd
   clear hd hP
   go_wp2_with fail
   go_ret
   exact HDD.out
  subst hP
  obtain⟨A9,n9,B9,m9,hv1,hv2⟩:=Ql HR9.out
  subst hv1;subst hv2
  obtain⟨C9,k9,hv3⟩:=HS9.out.shape
  subst hv3
  have HJ:=hid (jn_ok HN.out (QT HPe.out.symm).1)
  rw[←HPT.out,←HPC.out]at HJ
  have hPTs:PT.sz<=5:=by rw[HPT.out];exact (QT HPe.out.symm).2
  have hPCs:PC.length<=4*(N.1.sz+2):=by rw[HPC.out];exact qZ6 HPe.out.symm
  obtain⟨⟨JT,JC⟩,HJJ⟩:∃ q,Hid (jn N (PT,PC)=q):=⟨_,rfl⟩
  have HJ1:Hid (jnE N.1 PT N.2 PC=0):=HJ.out.1
  have HJ2:Hid (jnT N.1 PT N.2 PC=JT):=HJ.out.2.1.trans (congrArg Prod.fst HJJ.out)
  have HJ3:Hid (jnC N.1 PT N.2 PC=JC):=HJ.out.2.2.trans (congrArg Prod.snd HJJ.out)
  have HK3:Hid (∀ W,Below w3.heap.size w3 W->(W.cell? ⟨g,3,none⟩=some (.slice An N.1.es.length nn1)/\W.cell? ⟨g,4,none⟩=some (.slice Bn N.1.ks.length mn)/\W.cell? ⟨g,5,none⟩=some (.slice Cn N.2.length kn)/\W.cell? ⟨q9,0,none⟩=some (.slice A9 PT.es.length n9)/\W.cell? ⟨q9,1,none⟩=some (.slice B9 PT.ks.length m9)/\W.cell? ⟨q9,2,none⟩=some (.slice C9 PC.length k9))):=fun W hW=>by
   obtain⟨y0,y1,y2,_⟩:=HXW.out W (HBW3.out.trans (hW.mono HBW3.out.size))
   have g0:=(hW.block q9 hs9).trans HG9.out
   exact⟨y0,y1,y2,Qa (i:=0) g0,Qa (i:=1) g0,Qa (i:=2) g0⟩
  have HRD3:Hid (∀ W,Below w3.heap.size w3 W->(N.1.rd W W.heap.size (.slice An N.1.es.length nn1) (.slice Bn N.1.ks.length mn)/\SlP W W.heap.size 3 SpE (.slice Cn N.2.length kn) N.2/\PT.rd W W.heap.size (.slice A9 PT.es.length n9) (.slice B9 PT.ks.length m9)/\SlP W W.heap.size 3 SpE (.slice C9 PC.length k9) PC)):=fun W hW=>by
   obtain⟨r1,r2,_⟩:=HRW.out W (HBW3.out.trans (hW.mono HBW3.out.size))
   exact⟨r1,r2,Zx HR9.out (fun _ hb=>hb.2) hW,HS9.out.slp (fun _ hb=>hb.2) hW⟩
  clear hbz hG hrd hsl q0 q1 q2 q3 y0 y1 y2 y3
  obtain⟨y0,y1,y2,y3,y4,y5⟩:=HK3.out _ (Below.refl _ _)
  have hg3:g≠w3.heap.size:=by omega
  have hg3':w3.heap.size≠g:=by omega
  have hg4:q9≠w3.heap.size:=by omega
  have hg4':w3.heap.size≠q9:=by omega
  have hw3:w.heap.size≠w3.heap.size:=by omega
  have hw3':w3.heap.size≠w.heap.size:=by omega
  go_upto_region 8 with (fail)
  go_cut [7,6] (fun s9 s10 wx=>s10=.int .i64 0/\BoxG w3.heap.size w3 29 JT JC s9 wx)
  case first=>
   go_region_held3 (fun W=>W.cell? ⟨g,3,none⟩=some (.slice An N.1.es.length nn1)/\W.cell? ⟨g,4,none⟩=some (.slice Bn N.1.ks.length mn)/\W.cell? ⟨g,5,none⟩=some (.slice Cn N.2.length kn)/\W.cell? ⟨q9,0,none⟩=some (.slice A9 PT.es.length n9)/\W.cell? ⟨q9,1,none⟩=some (.slice B9 PT.ks.length m9)/\W.cell? ⟨q9,2,none⟩=some (.slice C9 PC.length k9))
    (first|go_keep|exact HK3.out _ hbr4.out|exact HK3.out _ (hbr4.out.trans (by go_grown))|exact HK3.out _ (((hbr4.out.setCell (by first|(simp;done)|(simp;omega)) _).setCell (by first|(simp;done)|(simp;omega)) _).setCell (by first|(simp;done)|(simp;omega)) _)|exact HK3.out _ (by go_grown)|fail)
    (first
     |(go_at_call 33;go_loud ((refine (qV3 N.2 PC N.1 PT _ _ _ _ _ _ _ (HRD3.out _ (by go_grown)).1 (HRD3.out _ (by go_grown)).2.2.1 (HRD3.out _ (by go_grown)).2.1 (HRD3.out _ (by go_grown)).2.2.2 (by omega) (by omega) (by omega) (by omega)).mono ?_);rw[HJ1.out,HJ2.out,HJ3.out];rintro e w4 ⟨xe4,xk4,xc4,rfl,hrd4,hsl4,hb⟩;have hbr4:Hid (Below w3.heap.size w3 w4):=hid (Below.trans (by go_grown) (hb.mono (by first|omega|(simp;done)|(simp;omega))));have hsr4:=hbr4.out.size;obtain⟨Ar4,nr4,Br4,mr4,hv1,hv2⟩:=Ql hrd4;subst hv1;subst hv2;obtain⟨Dr4,kr4,hv3⟩:=hsl4.shape;subst hv3;have HR4:=hid hrd4;have HL4:=hid hsl4;clear hrd4 hsl4;(first|(have HG4:Hid (w4.heap[w3.heap.size]?=some (.cells #[.slice none 0 0,.slice none 0 0,.slice none 0 0] 29 (0,0))):=hid (qYz hb);have k0:w4.cell? ⟨w3.heap.size,0,none⟩=some (.slice none 0 0):=Qa (i:=0) HG4.out;have k1:w4.cell? ⟨w3.heap.size,1,none⟩=some (.slice none 0 0):=Qa (i:=1) HG4.out;have k2:w4.cell? ⟨w3.heap.size,2,none⟩=some (.slice none 0 0):=Qa (i:=2) HG4.out;have z0:=Qb (i:=0) HG4.out;have z1:=Qb (i:=1) HG4.out;have z2:=Qb (i:=2) HG4.out)|(have HG4:Hid (w4.heap[w3.heap.size]?=some (.cells #[.slice none 0 0,.slice none 0 0,.slice none 0 0] 29 (0,0))):=hid (z_new hb);have k0:w4.cell? ⟨w3.heap.size,0,none⟩=some (.slice none 0 0):=Qa (i:=0) HG4.out;have k1:w4.cell? ⟨w3.heap.size,1,none⟩=some (.slice none 0 0):=Qa (i:=1) HG4.out;have k2:w4.cell? ⟨w3.heap.size,2,none⟩=some (.slice none 0 0):=Qa (i:=2) HG4.out;have z0:=Qb (i:=0) HG4.out;have z1:=Qb (i:=1) HG4.out;have z2:=Qb (i:=2) HG4.out)|skip);clear hb)))
   all_goals
    go_wp2_with fail
    go_meet
    case rel=>exact⟨rfl,(by first|exact JB hbr4.out hsr4 (by first|omega|(simp;done)|(simp;omega)) HR4.out HL4.out|exact XR HG4.out hbr4.out (by omega) (by first|(simp;done)|(simp;omega)) HR4.out HL4.out)⟩
  case rest=>
   obtain⟨rfl,q7,rfl,hq7,xe,xk,xc,hG,hrd,hsl,hbz⟩:=hcut
   obtain⟨w4,hw4⟩:∃ z:World,z=wc:=⟨wc,rfl⟩
   subst hw4
   have hs7:=lt_of_block hG
   have hs4:=hbz.size
   have HB34:Hid (Below w3.heap.size w3 w4):=hid hbz
   have HBW:Hid (Below w.heap.size w w4):=hid (HBW3.out.trans (hbz.mono HBW3.out.size))
   have HG7:=hid hG
   have HR7:=hid hrd
   have HS7:=hid hsl
   obtain⟨A7,n7,B7,m7,hv1,hv2⟩:=Ql hrd
   subst hv1;subst hv2
   obtain⟨C7,k7,hv3⟩:=hsl.shape
   subst hv3
   have HST4:Hid (TxB w4 g okp v (.slice Ao ops.length no) G N ops):=hid (HST.out.grow HBW.out)
   obtain⟨_,q0,q1,q2,q3⟩:=HX2.out _ (HB3.out.trans (hbz.mono hs3))
   obtain⟨d0,d1,d2⟩:=bx3 hG
   have c6:=HST4.out.cells.2.2.2.2.2.2
   have hL:ops.length+1<=Few:=by unfold Few;omega
   have HL:=hid hL
   have C6:=hid c6
   clear hG hrd hsl hbz y0 y1 y2 y3 y4 y5 hL
   have HXA:Hid ((JT,JC)=aftK N ⟨path,act,s,nn⟩ (txD ops.length)):=by unfold Hid aftK;rw[←HJJ.out,HPT.out,HPC.out];rfl
   have HZ:Hid (doI N ops.length ⟨path,act,s,nn⟩=0):=HD
   have F0:Hid (∀ o,w4.frozen? ⟨g,o,none⟩=false):=hid fun o=>HST4.out.frz o
   have hs24:w.heap.size+1<=w4.heap.size:=by omega
   have HS4:Hid (∀ W,Below w4.heap.size w4 W->(W.cell? ⟨q7,0,none⟩=some (.slice A7 JT.es.length n7)/\W.cell? ⟨q7,1,none⟩=some (.slice B7 JT.ks.length m7)/\W.cell? ⟨q7,2,none⟩=some (.slice C7 JC.length k7)/\W.cell? ⟨w.heap.size,0,none⟩=some (.slice A5 path.length c5)/\W.cell? ⟨w.heap.size,1,none⟩=some (.int .i64 act)/\W.cell? ⟨w.heap.size,2,none⟩=some (.string s)/\W.cell? ⟨w.heap.size,3,none⟩=some (.int .i64 nn))):=fun W hW=>
    ⟨(hW.cell (p:=⟨q7,0,none⟩) hs7).trans d0,(hW.cell (p:=⟨q7,1,none⟩) hs7).trans d1,(hW.cell (p:=⟨q7,2,none⟩) hs7).trans d2,(hW.cell (p:=⟨w.heap.size,0,none⟩) (by show w.heap.size<_;omega)).trans q0,(hW.cell (p:=⟨w.heap.size,1,none⟩) (by show w.heap.size<_;omega)).trans q1,(hW.cell (p:=⟨w.heap.size,2,none⟩) (by show w.heap.size<_;omega)).trans q2,(hW.cell (p:=⟨w.heap.size,3,none⟩) (by show w.heap.size<_;omega)).trans q3⟩
   have HPW:Hid (∀ W,Below w4.heap.size w4 W->SlP W W.heap.size 1 StE (.slice A5 path.length c5) path):=fun W hW=>(HRW.out W (HBW.out.trans (hW.mono HBW.out.size))).2.2
   have HWB:Hid (∀ w5,Below w4.heap.size w4 w5->∀ {o:Obj},Below w.heap.size w (w5.alloc o)):=fun w5 h5 o=>(HBW.out.trans (h5.mono HBW.out.size)).alloc (by have:=h5.size;have:=HBW.out.size;omega) o
   have hg44:g<w4.heap.size:=by omega
   have hw44:w.heap.size<w4.heap.size:=by omega
   have hqg:q7≠g:=by omega
   have HRJ:Hid (∀ w5,Below w4.heap.size w4 w5->∀ {o:Obj},JT.rda (w5.alloc o) (fun k=>w.heap.size<=k/\k<(w5.alloc o).heap.size) (.slice A7 JT.es.length n7) (.slice B7 JT.ks.length m7)):=fun w5 h5 o=>Qs (fun k hk=>(Qg (Nat.lt_of_lt_of_le hk.2 h5.size)).trans (h5.block k hk.2)) (fun k hk=>⟨by omega,by have:=h5.size;rw[World.size_alloc];omega⟩) _ _ _ HR7.out
   have HCJ:Hid (∀ w5,Below w4.heap.size w4 w5->∀ {o:Obj},SlA (w5.alloc o) (fun k=>w.heap.size<=k/\k<(w5.alloc o).heap.size) 3 SpE (.slice C7 JC.length k7) JC):=fun w5 h5 o=>HS7.out.up (fun k hk=>(Qg (Nat.lt_of_lt_of_le hk.2 h5.size)).trans (h5.block k hk.2)) (fun k hk=>⟨by omega,by have:=h5.size;rw[World.size_alloc];omega⟩) fun _ _ _ h=>h
   have hownlt:=HST.out.own.lt
   have HBL:Hid (∀ (w5 w6:World),Below w4.heap.size w4 w5->∀ {o:Obj},(w5.alloc o).grownBy w6 (Value.slice Ao ops.length no).ownBlock->(w6.heap[q7]?=w4.heap[q7]?/\w6.heap[w.heap.size]?=w4.heap[w.heap.size]?)):=fun w5 w6 h5 o hg=>by
    have h5s:=h5.size
    refine⟨(hg.block q7 (by rw[World.size_alloc];omega) (fun e=>by have:=(hownlt q7 e.symm).2;omega)).trans ((Qg (by omega)).trans (h5.block q7 hs7)),(hg.block w.heap.size (by rw[World.size_alloc];omega) (fun e=>by have:=(hownlt _ e.symm).2;omega)).trans ((Qg (by omega)).trans (h5.block _ hw44))⟩
   have HSB:Hid (∀ W:World,W.heap[q7]?=w4.heap[q7]?->W.heap[w.heap.size]?=w4.heap[w.heap.size]?->(W.cell? ⟨q7,0,none⟩=some (.slice A7 JT.es.length n7)/\W.cell? ⟨q7,1,none⟩=some (.slice B7 JT.ks.length m7)/\W.cell? ⟨q7,2,none⟩=some (.slice C7 JC.length k7)/\W.cell? ⟨w.heap.size,0,none⟩=some (.slice A5 path.length c5)/\W.cell? ⟨w.heap.size,1,none⟩=some (.int .i64 act)/\W.cell? ⟨w.heap.size,2,none⟩=some (.string s)/\W.cell? ⟨w.heap.size,3,none⟩=some (.int .i64 nn))):=fun W h1 h2=>
    ⟨(World.cell?_of_block h1).trans d0,(World.cell?_of_block h1).trans d1,(World.cell?_of_block h1).trans d2,(World.cell?_of_block h2).trans q0,(World.cell?_of_block h2).trans q1,(World.cell?_of_block h2).trans q2,(World.cell?_of_block h2).trans q3⟩
   have HST3:Hid (∀ {a b c:Value}(W:World) k,k≠g->(((W.setCell ⟨g,3,none⟩ a).setCell ⟨g,4,none⟩ b).setCell ⟨g,5,none⟩ c).heap[k]?=W.heap[k]?):=fun W k hk=>(Below.heap_setCell _ _ _ _ hk).trans ((Below.heap_setCell _ _ _ _ hk).trans (Below.heap_setCell _ _ _ _ hk))
   have G3:Hid (w.cell? ⟨g,3,none⟩=some (.slice An N.1.es.length nn1)/\w.cell? ⟨g,4,none⟩=some (.slice Bn N.1.ks.length mn)/\w.cell? ⟨g,5,none⟩=some (.slice Cn N.2.length kn)/\w.cell? ⟨g,6,none⟩=some (.slice Ao ops.length no)/\∀ o,w.frozen? ⟨g,o,none⟩=false):=by
    obtain⟨a1,a2,a3,a4⟩:=HXW.out w (Below.refl _ _)
    exact⟨a1,a2,a3,a4,fun o=>HST.out.frz o⟩
   clear hownlt
   go_upto_region 11 with (fail)
   go_cut [60] (fun _ wx=>DoR w g okp v (.slice Ao ops.length no) G N ops ⟨path,act,s,nn⟩ (.returned (.int .i64 0)) wx)
   case first=>
    refine wp_region_held_drew (S:=(fun W=>W.cell? ⟨q7,0,none⟩=some (.slice A7 JT.es.length n7)/\W.cell? ⟨q7,1,none⟩=some (.slice B7 JT.ks.length m7)/\W.cell? ⟨q7,2,none⟩=some (.slice C7 JC.length k7)/\W.cell? ⟨w.heap.size,0,none⟩=some (.slice A5 path.length c5)/\W.cell? ⟨w.heap.size,1,none⟩=some (.int .i64 act)/\W.cell? ⟨w.heap.size,2,none⟩=some (.string s)/\W.cell? ⟨w.heap.size,3,none⟩=some (.int .i64 nn))) (by kernel_rfl) ?_ (fun hHeld=>?_)
    ·go_keep
    refine wpAnyH_take (i:=0) (oi:=_) (v:=?v0) rfl (by kernel_rfl) (by kernel_rfl) (by kernel_rfl) (fun _ _ _ h=>h) (Or.inl ⟨by rfl,?h0⟩) (by assumption) ?_
    case h0=>(intro w hSw;(try dsimp only at hSw);go_simp;(try with_reducible rfl))
    simp only[Act.put,List.setIfInBounds_toArray,List.set_cons_zero,List.set_cons_succ,List.getElem_toArray,List.getElem_cons_zero]
    refine wpAnyH_take (i:=1) (oi:=_) (v:=?v1A) rfl (by kernel_rfl) (by kernel_rfl) (by kernel_rfl) (fun _ _ _ h=>h) (Or.inl ⟨by rfl,?h1A⟩) (by assumption) ?_
    case h1A=>(intro w hSw;(try dsimp only at hSw);go_simp;(try with_reducible rfl))
    simp only[Act.put,List.setIfInBounds_toArray,List.set_cons_zero,List.set_cons_succ,List.getElem_toArray,List.getElem_cons_zero,List.getElem_cons_succ]
    refine wpAnyH_take (i:=2) (oi:=_) (v:=?v2A) rfl (by kernel_rfl) (by kernel_rfl) (by kernel_rfl) (fun _ _ _ h=>h) (Or.inl ⟨by rfl,?h2A⟩) (by assumption) ?_
    case h2A=>(intro w hSw;(try dsimp only at hSw);go_simp;(try with_reducible rfl))
    simp only[Act.put,List.setIfInBounds_toArray,List.set_cons_zero,List.set_cons_succ,List.getElem_toArray,List.getElem_cons_zero,List.getElem_cons_succ]
    refine wpAnyH_take (i:=3) (oi:=_) (v:=?v3A) rfl (by kernel_rfl) (by kernel_rfl) (by kernel_rfl) (fun _ _ _ h=>h) (Or.inl ⟨by rfl,?h3A⟩) (by assumption) ?_
    case h3A=>(intro w hSw;(try dsimp only at hSw);go_simp;(try with_reducible rfl))
    simp only[Act.put,List.setIfInBounds_toArray,List.set_cons_zero,List.set_cons_succ,List.getElem_toArray,List.getElem_cons_zero,List.getElem_cons_succ]
    refine wpAnyH_take (i:=4) (oi:=_) (v:=?v4A) rfl (by kernel_rfl) (by kernel_rfl) (by kernel_rfl) (fun _ _ _ h=>h) (Or.inl ⟨by rfl,?h4A⟩) (by assumption) ?_
    case h4A=>(intro w hSw;(try dsimp only at hSw);go_simp;(try with_reducible rfl))
    simp only[Act.put,List.setIfInBounds_toArray,List.set_cons_zero,List.set_cons_succ,List.getElem_toArray,List.getElem_cons_zero,List.getElem_cons_succ]
    refine wpAnyH_take (i:=5) (oi:=_) (v:=?v5A) rfl (by kernel_rfl) (by kernel_rfl) (by kernel_rfl) (fun _ _ _ h=>h) (Or.inl ⟨by rfl,?h5A⟩) (by assumption) ?_
    case h5A=>(intro w hSw;(try dsimp only at hSw);go_simp;(try with_reducible rfl))
    simp only[Act.put,List.setIfInBounds_toArray,List.set_cons_zero,List.set_cons_succ,List.getElem_toArray,List.getElem_cons_zero,List.getElem_cons_succ]
    refine wpAnyH_take (i:=7) (oi:=_) (v:=?v7A) rfl (by kernel_rfl) (by kernel_rfl) (by kernel_rfl) (fun _ _ _ h=>h) (Or.inl ⟨by rfl,?h7A⟩) (by assumption) ?_
    case h7A=>(intro w hSw;(try dsimp only at hSw);go_simp;(try with_reducible rfl))
    simp only[Act.put,List.setIfInBounds_toArray,List.set_cons_zero,List.set_cons_succ,List.getElem_toArray,List.getElem_cons_zero,List.getElem_cons_succ]
    refine wpAnyH_ready (rs:=[6,8]) (by kernel_rfl) (by simp) ?_
    refine AllReadyH.cons (o:=_) rfl (fun K hK=>?_) (AllReadyH.cons (o:=_) rfl (fun K hK=>?_) AllReadyH.nil)
    ·go_simp
     refine hK.out _ _ ?_ (fun hHeld6=>?_)
     ·go_keep
     clear hK K
     try simp only[Act.put,List.setIfInBounds_toArray,List.set_cons_zero,List.set_cons_succ,List.getElem_toArray,List.getElem_cons_zero,List.getElem_cons_succ]
     refine wpAnyH_ready (rs:=[8]) (by kernel_rfl) (by simp) ?_
     refine AllReadyH.cons (o:=_) rfl (fun K hK=>?_) AllReadyH.nil
     (go_simp;refine (Ks ⟨path,act,s,nn⟩ _ _ (HPW.out _ (by go_grown)) (by show path.length<=_;omega)).mono ?_;rintro e w5 ⟨vp5,rfl,hsl5,hb5⟩;(have hsh5:=hsl5.shape);simp only at hsh5 hsl5;obtain⟨Ap5,cp5,hvp5⟩:=hsh5;subst hvp5;(have HB5:Hid (Below w4.heap.size w4 w5):=hid (Below.trans (by go_grown) (hb5.mono (by first|omega|(simp;done)|(simp;omega)))));(have HP5:Hid (SlA w5 (fun b=>w.heap.size<=b/\b<w5.heap.size) 1 StE (.slice Ap5 path.length cp5) path):=hid (hsl5.up (fun _ _=>rfl) (fun b hb=>⟨by have:=hb.1;first|omega|(simp at this;omega),hb.2⟩) fun _ _ _ h=>h));(have hs5:=HB5.out.size);(have c65:w5.cell? ⟨g,6,none⟩=some (.slice Ao ops.length no):=(HB5.out.cell (p:=⟨g,6,none⟩) hg44).trans C6.out);clear hsl5 hb5;go_wp2_with fail)
     refine hK.out _ _ ?_ (fun hHeld8=>?_)
     ·(exact HS4.out _ HB5.out)
     clear hK K
     try simp only[Act.put,List.setIfInBounds_toArray,List.set_cons_zero,List.set_cons_succ,List.getElem_toArray,List.getElem_cons_zero,List.getElem_cons_succ]
     refine wpAnyH_ready (rs:=[9]) (by kernel_rfl) (by simp) ?_
     refine AllReadyH.cons (o:=_) rfl (fun K hK=>?_) AllReadyH.nil
     go_simp
     refine hK.out _ _ ?_ (fun hHeld9=>?_)
     ·(exact HS4.out _ (HB5.out.alloc HB5.out.size _))
     clear hK K
     try simp only[Act.put,List.setIfInBounds_toArray,List.set_cons_zero,List.set_cons_succ,List.getElem_toArray,List.getElem_cons_zero,List.getElem_cons_succ]
     refine wpAnyH_ready (rs:=[10]) (by kernel_rfl) (by simp) ?_
     refine AllReadyH.cons (o:=_) rfl (fun K hK=>?_) AllReadyH.nil
     (refine YA (v:=.slice Ao ops.length no) rfl (.tmp 56) (.tmp 59) _ rfl OpA.mon eiOp (by decide) (by decide) rfl (qW7 HST.out (HWB.out w5 HB5.out)) rfl (qW8 (o:=⟨path,act,s,nn⟩) HST.out (HBW.out.trans (HB5.out.mono HBW.out.size)) HP5.out HO.out) HL.out (by simp;omega) ?_;intro v1 w6 hown6 hb6 hg6 hv6;(have hm:=qW9 (X:=(JT,JC)) (m:=0) HST.out (HWB.out w5 HB5.out) (HRJ.out w5 HB5.out) (HCJ.out w5 HB5.out) hown6 hg6 hv6 HZ.out HXA.out rfl);(have HM:=hid hm);(have hsh6:=OwnP.shape hown6);simp only[List.length_append,List.length_singleton]at hsh6;obtain⟨A1,n1,hv1⟩:=hsh6;subst hv1;(have HSB6:Hid (w6.heap[q7]?=w4.heap[q7]?/\w6.heap[w.heap.size]?=w4.heap[w.heap.size]?):=hid (HBL.out w5 w6 HB5.out hg6));(have hS6:=HSB.out w6 HSB6.out.1 HSB6.out.2);(have hc3:w6.cell? ⟨g,3,none⟩=some (.slice An N.1.es.length nn1):=(World.cell?_of_block HM.out.1).trans G3.out.1);(have hc4:w6.cell? ⟨g,4,none⟩=some (.slice Bn N.1.ks.length mn):=(World.cell?_of_block HM.out.1).trans G3.out.2.1);(have hc5:w6.cell? ⟨g,5,none⟩=some (.slice Cn N.2.length kn):=(World.cell?_of_block HM.out.1).trans G3.out.2.2.1);(have hc6:w6.cell? ⟨g,6,none⟩=some (.slice Ao ops.length no):=(World.cell?_of_block HM.out.1).trans G3.out.2.2.2.1);(have hf3:w6.frozen? ⟨g,3,none⟩=false:=(World.frozen?_of_block HM.out.1).trans (G3.out.2.2.2.2 3));(have hf4:w6.frozen? ⟨g,4,none⟩=false:=(World.frozen?_of_block HM.out.1).trans (G3.out.2.2.2.2 4));(have hf5:w6.frozen? ⟨g,5,none⟩=false:=(World.frozen?_of_block HM.out.1).trans (G3.out.2.2.2.2 5));(have hf6:w6.frozen? ⟨g,6,none⟩=false:=(World.frozen?_of_block HM.out.1).trans (G3.out.2.2.2.2 6));clear hown6 hb6 hg6 hv6 hm)
     refine hK.out _ _ ?_ (fun hHeld10=>?_)
     ·(exact hS6)
     clear hK K
     try simp only[Act.put,List.setIfInBounds_toArray,List.set_cons_zero,List.set_cons_succ,List.getElem_toArray,List.getElem_cons_zero,List.getElem_cons_succ]
     refine wpAnyH_take (i:=11) (oi:=_) (v:=?v11A) rfl (by kernel_rfl) (by kernel_rfl) (by kernel_rfl) (fun _ _ _ h=>h) (Or.inl ⟨by rfl,?h11A⟩) (by assumption) ?_
     case h11A=>(intro w hSw;(try dsimp only at hSw);go_simp;(try with_reducible rfl))
     simp only[Act.put,List.setIfInBounds_toArray,List.set_cons_zero,List.set_cons_succ,List.getElem_toArray,List.getElem_cons_zero,List.getElem_cons_succ]
     refine wpAnyH_take (i:=12) (oi:=_) (v:=?v12A) rfl (by kernel_rfl) (by kernel_rfl) (by kernel_rfl) (fun _ _ _ h=>h) (Or.inl ⟨by rfl,?h12A⟩) (by assumption) ?_
     case h12A=>(intro w hSw;(try dsimp only at hSw);go_simp;(try with_reducible rfl))
     simp only[Act.put,List.setIfInBounds_toArray,List.set_cons_zero,List.set_cons_succ,List.getElem_toArray,List.getElem_cons_zero,List.getElem_cons_succ]
     refine wpAnyH_ready (rs:=[13]) (by kernel_rfl) (by simp) ?_
     refine AllReadyH.cons (o:=_) rfl (fun K hK=>?_) AllReadyH.nil
     go_simp
     refine hK.out _ _ ?_ (fun hHeld13=>?_)
     ·(exact HSB.out _ ((HST3.out _ q7 hqg).trans HSB6.out.1) ((HST3.out _ _ hgw').trans HSB6.out.2))
     clear hK K
     try simp only[Act.put,List.setIfInBounds_toArray,List.set_cons_zero,List.set_cons_succ,List.getElem_toArray,List.getElem_cons_zero,List.getElem_cons_succ]
     refine wpAnyH_take (i:=14) (oi:=_) (v:=?v14A) rfl (by kernel_rfl) (by kernel_rfl) (by kernel_rfl) (fun _ _ _ h=>h) (Or.inl ⟨by rfl,?h14A⟩) (by assumption) ?_
     case h14A=>(intro w hSw;(try dsimp only at hSw);go_simp;(try with_reducible rfl))
     simp only[Act.put,List.setIfInBounds_toArray,List.set_cons_zero,List.set_cons_succ,List.getElem_toArray,List.getElem_cons_zero,List.getElem_cons_succ]
     refine wpAnyH_take (i:=15) (oi:=_) (v:=?v15A) rfl (by kernel_rfl) (by kernel_rfl) (by kernel_rfl) (fun _ _ _ h=>h) (Or.inl ⟨by rfl,?h15A⟩) (by assumption) ?_
     case h15A=>(intro w hSw;(try dsimp only at hSw);go_simp;(try with_reducible rfl))
     simp only[Act.put,List.setIfInBounds_toArray,List.set_cons_zero,List.set_cons_succ,List.getElem_toArray,List.getElem_cons_zero,List.getElem_cons_succ]
     refine wpAnyH_ready (rs:=[16]) (by kernel_rfl) (by simp) ?_
     refine AllReadyH.cons (o:=_) rfl (fun K hK=>?_) AllReadyH.nil
     go_simp
     refine hK.out _ _ ?_ (fun hHeld16=>?_)
     ·(exact HSB.out _ ((Below.heap_setCell _ _ _ _ hqg).trans ((HST3.out _ q7 hqg).trans HSB6.out.1)) ((Below.heap_setCell _ _ _ _ hgw').trans ((HST3.out _ _ hgw').trans HSB6.out.2)))
     clear hK K
     try simp only[Act.put,List.setIfInBounds_toArray,List.set_cons_zero,List.set_cons_succ,List.getElem_toArray,List.getElem_cons_zero,List.getElem_cons_succ]
     refine wpAnyH_done (by kernel_rfl) ?_ _
     go_wp2_with fail
     go_meet
     case rel=>exact HM.out.2
    ·(go_simp;refine (Ks ⟨path,act,s,nn⟩ _ _ (HPW.out _ (by go_grown)) (by show path.length<=_;omega)).mono ?_;rintro e w5 ⟨vp5,rfl,hsl5,hb5⟩;(have hsh5:=hsl5.shape);simp only at hsh5 hsl5;obtain⟨Ap5,cp5,hvp5⟩:=hsh5;subst hvp5;(have HB5:Hid (Below w4.heap.size w4 w5):=hid (Below.trans (by go_grown) (hb5.mono (by first|omega|(simp;done)|(simp;omega)))));(have HP5:Hid (SlA w5 (fun b=>w.heap.size<=b/\b<w5.heap.size) 1 StE (.slice Ap5 path.length cp5) path):=hid (hsl5.up (fun _ _=>rfl) (fun b hb=>⟨by have:=hb.1;first|omega|(simp at this;omega),hb.2⟩) fun _ _ _ h=>h));(have hs5:=HB5.out.size);(have c65:w5.cell? ⟨g,6,none⟩=some (.slice Ao ops.length no):=(HB5.out.cell (p:=⟨g,6,none⟩) hg44).trans C6.out);clear hsl5 hb5;go_wp2_with fail)
     refine hK.out _ _ ?_ (fun hHeld8=>?_)
     ·(exact HS4.out _ HB5.out)
     clear hK K
     try simp only[Act.put,List.setIfInBounds_toArray,List.set_cons_zero,List.set_cons_succ,List.getElem_toArray,List.getElem_cons_zero,List.getElem_cons_succ]
     refine wpAnyH_ready (rs:=[6,9]) (by kernel_rfl) (by simp) ?_
     refine AllReadyH.cons (o:=_) rfl (fun K hK=>?_) (AllReadyH.cons (o:=_) rfl (fun K hK=>?_) AllReadyH.nil)
     ·go_simp
      refine hK.out _ _ ?_ (fun hHeld6=>?_)
      ·(exact HS4.out _ HB5.out)
      clear hK K
      try simp only[Act.put,List.setIfInBounds_toArray,List.set_cons_zero,List.set_cons_succ,List.getElem_toArray,List.getElem_cons_zero,List.getElem_cons_succ]
      refine wpAnyH_ready (rs:=[9]) (by kernel_rfl) (by simp) ?_
      refine AllReadyH.cons (o:=_) rfl (fun K hK=>?_) AllReadyH.nil
      go_simp
      refine hK.out _ _ ?_ (fun hHeld9=>?_)
      ·(exact HS4.out _ (HB5.out.alloc HB5.out.size _))
      clear hK K
      try simp only[Act.put,List.setIfInBounds_toArray,List.set_cons_zero,List.set_cons_succ,List.getElem_toArray,List.getElem_cons_zero,List.getElem_cons_succ]
      refine wpAnyH_ready (rs:=[10]) (by kernel_rfl) (by simp) ?_
      refine AllReadyH.cons (o:=_) rfl (fun K hK=>?_) AllReadyH.nil
      (refine YA (v:=.slice Ao ops.length no) rfl (.tmp 56) (.tmp 59) _ rfl OpA.mon eiOp (by decide) (by decide) rfl (qW7 HST.out (HWB.out w5 HB5.out)) rfl (qW8 (o:=⟨path,act,s,nn⟩) HST.out (HBW.out.trans (HB5.out.mono HBW.out.size)) HP5.out HO.out) HL.out (by simp;omega) ?_;intro v1 w6 hown6 hb6 hg6 hv6;(have hm:=qW9 (X:=(JT,JC)) (m:=0) HST.out (HWB.out w5 HB5.out) (HRJ.out w5 HB5.out) (HCJ.out w5 HB5.out) hown6 hg6 hv6 HZ.out HXA.out rfl);(have HM:=hid hm);(have hsh6:=OwnP.shape hown6);simp only[List.length_append,List.length_singleton]at hsh6;obtain⟨A1,n1,hv1⟩:=hsh6;subst hv1;(have HSB6:Hid (w6.heap[q7]?=w4.heap[q7]?/\w6.heap[w.heap.size]?=w4.heap[w.heap.size]?):=hid (HBL.out w5 w6 HB5.out hg6));(have hS6:=HSB.out w6 HSB6.out.1 HSB6.out.2);(have hc3:w6.cell? ⟨g,3,none⟩=some (.slice An N.1.es.length nn1):=(World.cell?_of_block HM.out.1).trans G3.out.1);(have hc4:w6.cell? ⟨g,4,none⟩=some (.slice Bn N.1.ks.length mn):=(World.cell?_of_block HM.out.1).trans G3.out.2.1);(have hc5:w6.cell? ⟨g,5,none⟩=some (.slice Cn N.2.length kn):=(World.cell?_of_block HM.out.1).trans G3.out.2.2.1);(have hc6:w6.cell? ⟨g,6,none⟩=some (.slice Ao ops.length no):=(World.cell?_of_block HM.out.1).trans G3.out.2.2.2.1);(have hf3:w6.frozen? ⟨g,3,none⟩=false:=(World.frozen?_of_block HM.out.1).trans (G3.out.2.2.2.2 3));(have hf4:w6.frozen? ⟨g,4,none⟩=false:=(World.frozen?_of_block HM.out.1).trans (G3.out.2.2.2.2 4));(have hf5:w6.frozen? ⟨g,5,none⟩=false:=(World.frozen?_of_block HM.out.1).trans (G3.out.2.2.2.2 5));(have hf6:w6.frozen? ⟨g,6,none⟩=false:=(World.frozen?_of_block HM.out.1).trans (G3.out.2.2.2.2 6));clear hown6 hb6 hg6 hv6 hm)
      refine hK.out _ _ ?_ (fun hHeld10=>?_)
      ·(exact hS6)
      clear hK K
      try simp only[Act.put,List.setIfInBounds_toArray,List.set_cons_zero,List.set_cons_succ,List.getElem_toArray,List.getElem_cons_zero,List.getElem_cons_succ]
      refine wpAnyH_take (i:=11) (oi:=_) (v:=?v11B) rfl (by kernel_rfl) (by kernel_rfl) (by kernel_rfl) (fun _ _ _ h=>h) (Or.inl ⟨by rfl,?h11B⟩) (by assumption) ?_
      case h11B=>(intro w hSw;(try dsimp only at hSw);go_simp;(try with_reducible rfl))
      simp only[Act.put,List.setIfInBounds_toArray,List.set_cons_zero,List.set_cons_succ,List.getElem_toArray,List.getElem_cons_zero,List.getElem_cons_succ]
      refine wpAnyH_take (i:=12) (oi:=_) (v:=?v12B) rfl (by kernel_rfl) (by kernel_rfl) (by kernel_rfl) (fun _ _ _ h=>h) (Or.inl ⟨by rfl,?h12B⟩) (by assumption) ?_
      case h12B=>(intro w hSw;(try dsimp only at hSw);go_simp;(try with_reducible rfl))
      simp only[Act.put,List.setIfInBounds_toArray,List.set_cons_zero,List.set_cons_succ,List.getElem_toArray,List.getElem_cons_zero,List.getElem_cons_succ]
      refine wpAnyH_ready (rs:=[13]) (by kernel_rfl) (by simp) ?_
      refine AllReadyH.cons (o:=_) rfl (fun K hK=>?_) AllReadyH.nil
      go_simp
      refine hK.out _ _ ?_ (fun hHeld13=>?_)
      ·(exact HSB.out _ ((HST3.out _ q7 hqg).trans HSB6.out.1) ((HST3.out _ _ hgw').trans HSB6.out.2))
      clear hK K
      try simp only[Act.put,List.setIfInBounds_toArray,List.set_cons_zero,List.set_cons_succ,List.getElem_toArray,List.getElem_cons_zero,List.getElem_cons_succ]
      refine wpAnyH_take (i:=14) (oi:=_) (v:=?v14B) rfl (by kernel_rfl) (by kernel_rfl) (by kernel_rfl) (fun _ _ _ h=>h) (Or.inl ⟨by rfl,?h14B⟩) (by assumption) ?_
      case h14B=>(intro w hSw;(try dsimp only at hSw);go_simp;(try with_reducible rfl))
      simp only[Act.put,List.setIfInBounds_toArray,List.set_cons_zero,List.set_cons_succ,List.getElem_toArray,List.getElem_cons_zero,List.getElem_cons_succ]
      refine wpAnyH_take (i:=15) (oi:=_) (v:=?v15B) rfl (by kernel_rfl) (by kernel_rfl) (by kernel_rfl) (fun _ _ _ h=>h) (Or.inl ⟨by rfl,?h15B⟩) (by assumption) ?_
      case h15B=>(intro w hSw;(try dsimp only at hSw);go_simp;(try with_reducible rfl))
      simp only[Act.put,List.setIfInBounds_toArray,List.set_cons_zero,List.set_cons_succ,List.getElem_toArray,List.getElem_cons_zero,List.getElem_cons_succ]
      refine wpAnyH_ready (rs:=[16]) (by kernel_rfl) (by simp) ?_
      refine AllReadyH.cons (o:=_) rfl (fun K hK=>?_) AllReadyH.nil
      go_simp
      refine hK.out _ _ ?_ (fun hHeld16=>?_)
      ·(exact HSB.out _ ((Below.heap_setCell _ _ _ _ hqg).trans ((HST3.out _ q7 hqg).trans HSB6.out.1)) ((Below.heap_setCell _ _ _ _ hgw').trans ((HST3.out _ _ hgw').trans HSB6.out.2)))
      clear hK K
      try simp only[Act.put,List.setIfInBounds_toArray,List.set_cons_zero,List.set_cons_succ,List.getElem_toArray,List.getElem_cons_zero,List.getElem_cons_succ]
      refine wpAnyH_done (by kernel_rfl) ?_ _
      go_wp2_with fail
      go_meet
      case rel=>exact HM.out.2
     ·go_simp
      refine hK.out _ _ ?_ (fun hHeld9=>?_)
      ·(exact HS4.out _ (HB5.out.alloc HB5.out.size _))
      clear hK K
      try simp only[Act.put,List.setIfInBounds_toArray,List.set_cons_zero,List.set_cons_succ,List.getElem_toArray,List.getElem_cons_zero,List.getElem_cons_succ]
      have hg5:g≠w5.heap.size:=by omega
      have hg5':w5.heap.size≠g:=by omega
      have hg5l:g<w5.heap.size:=by omega
      refine wpAnyH_ready (rs:=[6]) (by kernel_rfl) (by simp) ?_
      refine AllReadyH.cons (o:=_) rfl (fun K hK=>?_) AllReadyH.nil
      go_simp
      refine hK.out _ _ ?_ (fun hHeld6=>?_)
      ·(exact HS4.out _ (HB5.out.alloc HB5.out.size _))
      clear hK K
      try simp only[Act.put,List.setIfInBounds_toArray,List.set_cons_zero,List.set_cons_succ,List.getElem_toArray,List.getElem_cons_zero,List.getElem_cons_succ]
      refine wpAnyH_ready (rs:=[10]) (by kernel_rfl) (by simp) ?_
      refine AllReadyH.cons (o:=_) rfl (fun K hK=>?_) AllReadyH.nil
      (refine YA (v:=.slice Ao ops.length no) rfl (.tmp 56) (.tmp 59) _ rfl OpA.mon eiOp (by decide) (by decide) rfl (qW7 HST.out (HWB.out w5 HB5.out)) rfl (qW8 (o:=⟨path,act,s,nn⟩) HST.out (HBW.out.trans (HB5.out.mono HBW.out.size)) HP5.out HO.out) HL.out (by simp;omega) ?_;intro v1 w6 hown6 hb6 hg6 hv6;(have hm:=qW9 (X:=(JT,JC)) (m:=0) HST.out (HWB.out w5 HB5.out) (HRJ.out w5 HB5.out) (HCJ.out w5 HB5.out) hown6 hg6 hv6 HZ.out HXA.out rfl);(have HM:=hid hm);(have hsh6:=OwnP.shape hown6);simp only[List.length_append,List.length_singleton]at hsh6;obtain⟨A1,n1,hv1⟩:=hsh6;subst hv1;(have HSB6:Hid (w6.heap[q7]?=w4.heap[q7]?/\w6.heap[w.heap.size]?=w4.heap[w.heap.size]?):=hid (HBL.out w5 w6 HB5.out hg6));(have hS6:=HSB.out w6 HSB6.out.1 HSB6.out.2);(have hc3:w6.cell? ⟨g,3,none⟩=some (.slice An N.1.es.length nn1):=(World.cell?_of_block HM.out.1).trans G3.out.1);(have hc4:w6.cell? ⟨g,4,none⟩=some (.slice Bn N.1.ks.length mn):=(World.cell?_of_block HM.out.1).trans G3.out.2.1);(have hc5:w6.cell? ⟨g,5,none⟩=some (.slice Cn N.2.length kn):=(World.cell?_of_block HM.out.1).trans G3.out.2.2.1);(have hc6:w6.cell? ⟨g,6,none⟩=some (.slice Ao ops.length no):=(World.cell?_of_block HM.out.1).trans G3.out.2.2.2.1);(have hf3:w6.frozen? ⟨g,3,none⟩=false:=(World.frozen?_of_block HM.out.1).trans (G3.out.2.2.2.2 3));(have hf4:w6.frozen? ⟨g,4,none⟩=false:=(World.frozen?_of_block HM.out.1).trans (G3.out.2.2.2.2 4));(have hf5:w6.frozen? ⟨g,5,none⟩=false:=(World.frozen?_of_block HM.out.1).trans (G3.out.2.2.2.2 5));(have hf6:w6.frozen? ⟨g,6,none⟩=false:=(World.frozen?_of_block HM.out.1).trans (G3.out.2.2.2.2 6));clear hown6 hb6 hg6 hv6 hm)
      refine hK.out _ _ ?_ (fun hHeld10=>?_)
      ·(exact hS6)
      clear hK K
      try simp only[Act.put,List.setIfInBounds_toArray,List.set_cons_zero,List.set_cons_succ,List.getElem_toArray,List.getElem_cons_zero,List.getElem_cons_succ]
      refine wpAnyH_take (i:=11) (oi:=_) (v:=?v11C) rfl (by kernel_rfl) (by kernel_rfl) (by kernel_rfl) (fun _ _ _ h=>h) (Or.inl ⟨by rfl,?h11C⟩) (by assumption) ?_
      case h11C=>(intro w hSw;(try dsimp only at hSw);go_simp;(try with_reducible rfl))
      simp only[Act.put,List.setIfInBounds_toArray,List.set_cons_zero,List.set_cons_succ,List.getElem_toArray,List.getElem_cons_zero,List.getElem_cons_succ]
      refine wpAnyH_take (i:=12) (oi:=_) (v:=?v12C) rfl (by kernel_rfl) (by kernel_rfl) (by kernel_rfl) (fun _ _ _ h=>h) (Or.inl ⟨by rfl,?h12C⟩) (by assumption) ?_
      case h12C=>(intro w hSw;(try dsimp only at hSw);go_simp;(try with_reducible rfl))
      simp only[Act.put,List.setIfInBounds_toArray,List.set_cons_zero,List.set_cons_succ,List.getElem_toArray,List.getElem_cons_zero,List.getElem_cons_succ]
      refine wpAnyH_ready (rs:=[13]) (by kernel_rfl) (by simp) ?_
      refine AllReadyH.cons (o:=_) rfl (fun K hK=>?_) AllReadyH.nil
      go_simp
      refine hK.out _ _ ?_ (fun hHeld13=>?_)
      ·(exact HSB.out _ ((HST3.out _ q7 hqg).trans HSB6.out.1) ((HST3.out _ _ hgw').trans HSB6.out.2))
      clear hK K
      try simp only[Act.put,List.setIfInBounds_toArray,List.set_cons_zero,List.set_cons_succ,List.getElem_toArray,List.getElem_cons_zero,List.getElem_cons_succ]
      refine wpAnyH_take (i:=14) (oi:=_) (v:=?v14C) rfl (by kernel_rfl) (by kernel_rfl) (by kernel_rfl) (fun _ _ _ h=>h) (Or.inl ⟨by rfl,?h14C⟩) (by assumption) ?_
      case h14C=>(intro w hSw;(try dsimp only at hSw);go_simp;(try with_reducible rfl))
      simp only[Act.put,List.setIfInBounds_toArray,List.set_cons_zero,List.set_cons_succ,List.getElem_toArray,List.getElem_cons_zero,List.getElem_cons_succ]
      refine wpAnyH_take (i:=15) (oi:=_) (v:=?v15C) rfl (by kernel_rfl) (by kernel_rfl) (by kernel_rfl) (fun _ _ _ h=>h) (Or.inl ⟨by rfl,?h15C⟩) (by assumption) ?_
      case h15C=>(intro w hSw;(try dsimp only at hSw);go_simp;(try with_reducible rfl))
      simp only[Act.put,List.setIfInBounds_toArray,List.set_cons_zero,List.set_cons_succ,List.getElem_toArray,List.getElem_cons_zero,List.getElem_cons_succ]
      refine wpAnyH_ready (rs:=[16]) (by kernel_rfl) (by simp) ?_
      refine AllReadyH.cons (o:=_) rfl (fun K hK=>?_) AllReadyH.nil
      go_simp
      refine hK.out _ _ ?_ (fun hHeld16=>?_)
      ·(exact HSB.out _ ((Below.heap_setCell _ _ _ _ hqg).trans ((HST3.out _ q7 hqg).trans HSB6.out.1)) ((Below.heap_setCell _ _ _ _ hgw').trans ((HST3.out _ _ hgw').trans HSB6.out.2)))
      clear hK K
      try simp only[Act.put,List.setIfInBounds_toArray,List.set_cons_zero,List.set_cons_succ,List.getElem_toArray,List.getElem_cons_zero,List.getElem_cons_succ]
      refine wpAnyH_done (by kernel_rfl) ?_ _
      go_wp2_with fail
      go_meet
      case rel=>exact HM.out.2
   case rest=>
    have HCUT:=hid hcut
    clear hcut
    go_wp2_with fail
    go_ret
    exact HCUT.out
def BoxT (m:Nat)(V:World)(e:TypeId)(T:Tr)(s:Value)(wx:World):Prop:=
 ∃ g,s=.pointer (some ⟨g,0,none⟩)/\m<=g/\∃ u v,wx.heap[g]?=some (.cells #[u,v] e (0,0))/\T.rda wx (fun b=>m<=b/\b<wx.heap.size) u v/\Below m V wx
theorem zQ9 {m N:Nat}{V w7:World}{e:TypeId}{T:Tr}{u v:Value}(hb:Below m V w7)(hm:m<=w7.heap.size)(hN:m<=N)(hr:T.rda w7 (fun b=>N<=b/\b<w7.heap.size) u v) :
  BoxT m V e T (.pointer (some ⟨w7.heap.size,0,none⟩)) (w7.alloc (.cells #[u,v] e)):=
 ⟨w7.heap.size,rfl,hm,u,v,Qd rfl,Qs (fun b hb=>Qg hb.2) (fun b hb=>⟨by omega,by rw[World.size_alloc];omega⟩) _ _ _ hr,hb.alloc hm _⟩
theorem zZa {m N g:Nat}{V w7:World}{e:TypeId}{T:Tr}{u v a b:Value}(hbx:w7.heap[g]?=some (.cells #[a,b] e (0,0)))(hb:Below m V w7)(hg:m<=g)(hgN:g<N)(hr:T.rda w7 (fun b=>N<=b/\b<w7.heap.size) u v) :
  BoxT m V e T (.pointer (some ⟨g,0,none⟩)) ((w7.setCell ⟨g,0,none⟩ u).setCell ⟨g,1,none⟩ v):=by
 obtain⟨_,_,hK,hS⟩:=ZZ hbx hr (fun b hb=>by omega)
 have hW:=Qe (i:=1) (Qe (i:=0) hbx u) v
 exact⟨g,rfl,hg,u,v,by simpa using hW,Qs (fun _ _=>rfl) (fun b hb=>⟨by omega,by rw[hS];exact hb.2⟩) _ _ _ hK,(hb.setCell hg _).setCell hg _⟩
theorem zX3 (o:Opr):(endP o).length<=o.path.length+1:=by unfold endP;rw[List.length_append];split<;>simp
theorem Kz (o:Opr)(vp:Value)(w:World)(h:SlP w w.heap.size 1 StE vp o.path)(ho:o.Ok)(hl:o.path.length<=1000) :
  Calls Tryz.prog 108 #[.agg #[vp,.int .i64 o.act,.string o.s,.int .i64 o.n]] w (RetO w 9 1 (fun _=>StE) (endP o)):=by
 have HC:Hid (∀ w',Below w.heap.size w w'->SlP w' w'.heap.size 1 StE vp o.path):=fun w' hb=>h.imp hb hb.size fun _ _ _ h=>h
 obtain⟨A,n,rfl,c1,c2,_⟩:=h
 unfold Big at c2
 have hos:=hid ho.s
 obtain⟨path,act,s,k⟩:=o
 simp only at HC c1 c2 hos hl ⊢
 have HX:Hid (∀ W,Below (w.heap.size+1) (w.alloc (.cells #[.slice A path.length n,.int .i64 act,.string s,.int .i64 k] 65)) W->(Below w.heap.size w W/\SlP W W.heap.size 1 StE (.slice A path.length n) path/\W.cell? ⟨w.heap.size,0,none⟩=some (.slice A path.length n)/\W.cell? ⟨w.heap.size,1,none⟩=some (.int .i64 act)/\W.cell? ⟨w.heap.size,2,none⟩=some (.string s))):=fun W hW=>by
  have g0:W.heap[w.heap.size]?=some (.cells #[.slice A path.length n,.int .i64 act,.string s,.int .i64 k] 65 (0,0)):=(hW.block _ (by omega)).trans (Qd rfl)
  have hB:Below w.heap.size w W:=((Below.refl _ w).alloc (Nat.le_refl _) _).trans (hW.mono (by omega))
  exact⟨hB,HC.out _ hB,Qa (i:=0) g0,Qa (i:=1) g0,Qa (i:=2) g0⟩
 have HBE:Hid (Below (w.heap.size+1) (w.alloc (.cells #[.slice A path.length n,.int .i64 act,.string s,.int .i64 k] 65)) ((w.alloc (.cells #[.slice A path.length n,.int .i64 act,.string s,.int .i64 k] 65)).alloc (.cells #[] 9))):=hid ((Below.refl _ _).alloc (by simp) _)
 have HKS:Hid (StE s [.string s]):=⟨rfl,hos.out⟩
 by_cases ha:act=3
 ·have HE:Hid (endP ⟨path,act,s,k⟩=path++[s]):=by unfold Hid endP;simp[ha]
  subst ha
  go_enter Tryz.func108,Tryz.ntmps108
  go_wp2_with (first|(at_builtin;go_loud ((with_reducible refine Qk rfl (.tmp 4) (.tmp 6) _ rfl eiStr (by decide) (by decide) (fun _ _ h=>StE.one h) rfl (OwnP.empty (base:=w.heap.size+1) (Qd (by simp)) (by simp)) rfl (HX.out _ HBE.out).2.1 (by unfold Few;simp;omega) (by simp) ?_);intro v1 w1 hown1 hb1 _;rw[List.nil_append]at hown1;have HB1:=hid (HBE.out.trans hb1);have hs1:=HB1.out.size;simp only[World.size_alloc]at hs1;clear hb1;obtain⟨hB,hq,q0,q1,q2⟩:=HX.out _ HB1.out))|(at_builtin;go_loud ((with_reducible refine Qk rfl (.tmp 11) (.tmp 14) _ rfl eiStr (by decide) (by decide) (fun _ _ h=>StE.one h) rfl (hown1.alloc _) rfl (SlP.one (x:=s) HKS.out rfl _ rfl) (by unfold Few;simp;omega) (by rw[World.size_alloc];omega) ?_);intro v2 w2 hown2 hb2 _)))
  go_ret
  exact⟨_,rfl,by rw[HE.out];exact hown2.mono (by omega),hB.trans ((((Below.refl (w.heap.size+1) w1).alloc hs1 _).trans hb2).mono (by omega))⟩
 ·have HE:Hid (endP ⟨path,act,s,k⟩=path):=by unfold Hid endP;simp[ha]
  have hne:(act==3)=false:=by simpa using ha
  go_enter Tryz.func108,Tryz.ntmps108
  go_wp2_with (at_builtin;go_loud ((with_reducible refine Qk rfl (.tmp 4) (.tmp 6) _ rfl eiStr (by decide) (by decide) (fun _ _ h=>StE.one h) rfl (OwnP.empty (base:=w.heap.size+1) (Qd (by simp)) (by simp)) rfl (HX.out _ HBE.out).2.1 (by unfold Few;simp;omega) (by simp) ?_);intro v1 w1 hown1 hb1 _;rw[List.nil_append]at hown1;have HB1:=hid (HBE.out.trans hb1);have hs1:=HB1.out.size;simp only[World.size_alloc]at hs1;clear hb1;obtain⟨hB,hq,q0,q1,q2⟩:=HX.out _ HB1.out))
  go_ret
  exact⟨_,rfl,by rw[HE.out];exact hown1.mono (by omega),hB⟩
theorem zX4 {t:Tr}{q:List ByteArray}(h:∀ j,j<q.length->fullAt t q j=false):fullP t q=false:=by
 unfold fullP
 rw[List.any_eq_false]
 intro j hj
 rw[h j (List.mem_range.1 hj)];simp
theorem zZb {t:Tr}{q:List ByteArray}{j:Nat}(h:j<q.length)(hf:fullAt t q j=true):fullP t q=true:=by
 unfold fullP
 exact List.any_eq_true.2 ⟨j,List.mem_range.2 h,hf⟩
theorem qKk (t:Tr)(o:Opr)(ve vk vp:Value)(w:World)(h:t.rd w w.heap.size ve vk)(hp:SlP w w.heap.size 1 StE vp o.path)(ho:o.Ok)(hr:t.right 5=true)(hl:o.path.length<=1000)(hN:t.sz<=4000) :
  Calls Tryz.prog 103 #[.agg #[ve,vk],.agg #[vp,.int .i64 o.act,.string o.s,.int .i64 o.n]] w fun e w'=>e=.returned (.bool (fullB t o))/\Below w.heap.size w w':=by
 have HF:Hid (fullB t o=(Qu o.act&&(fullP t (endP o)||decide (o.act=5)&&decide (24<=(getK t (endP o)).es.length)))):=rfl
 have HEL:=zX3 o
 have HOR:=hid (ZL _ _ hr)
 have HC:Hid (∀ w',Below w.heap.size w w'->t.rd w' w'.heap.size ve vk):=fun w' hb=>Qi hb hb.size _ _ _ h
 have HD:Hid (∀ w',Below w.heap.size w w'->SlP w' w'.heap.size 1 StE vp o.path):=fun w' hb=>hp.imp hb hb.size fun _ _ _ h=>h
 obtain⟨A3,n3,A4,n4,rfl,rfl⟩:=Qj h
 obtain⟨A5,n5,rfl,p1,p2,p3⟩:=hp
 unfold Big at p2
 have HO:=hid ho
 obtain⟨oa,on,os⟩:=ho
 obtain⟨path,act,s,n⟩:=o
 simp only at oa on os p1 p2 p3 HD HO hl ⊢
 have HX:Hid (∀ W,Below (w.heap.size+2) ((w.alloc (.cells #[.slice A3 t.es.length n3,.slice A4 t.ks.length n4] 25)).alloc (.cells #[.slice A5 path.length n5,.int .i64 act,.string s,.int .i64 n] 65)) W ->
   (Below w.heap.size w W/\t.rd W W.heap.size (.slice A3 t.es.length n3) (.slice A4 t.ks.length n4)/\SlP W W.heap.size 1 StE (.slice A5 path.length n5) path/\W.cell? ⟨w.heap.size,0,none⟩=some (.slice A3 t.es.length n3)/\W.cell? ⟨w.heap.size,1,none⟩=some (.slice A4 t.ks.length n4)/\W.cell? ⟨w.heap.size+1,0,none⟩=some (.slice A5 path.length n5)/\W.cell? ⟨w.heap.size+1,1,none⟩=some (.int .i64 act)/\W.cell? ⟨w.heap.size+1,2,none⟩=some (.string s)/\W.cell? ⟨w.heap.size+1,3,none⟩=some (.int .i64 n))):=fun W hW=>by
  have g0:W.heap[w.heap.size]?=some (.cells #[.slice A3 t.es.length n3,.slice A4 t.ks.length n4] 25 (0,0)):=(hW.block _ (by omega)).trans ((Qg (by simp)).trans (Qd rfl))
  have g1:W.heap[w.heap.size+1]?=some (.cells #[.slice A5 path.length n5,.int .i64 act,.string s,.int .i64 n] 65 (0,0)):=(hW.block _ (by omega)).trans (Qd (by simp))
  have hB:=(((Below.refl w.heap.size w).alloc (Nat.le_refl _) (.cells #[.slice A3 t.es.length n3,.slice A4 t.ks.length n4] 25)).alloc (by simp) (.cells #[.slice A5 path.length n5,.int .i64 act,.string s,.int .i64 n] 65)).trans (hW.mono (by omega))
  exact⟨hB,HC.out _ hB,HD.out _ hB,Qa (i:=0) g0,Qa (i:=1) g0,Qa (i:=0) g1,Qa (i:=1) g1,Qa (i:=2) g1,Qa (i:=3) g1⟩
 clear h
 simp only at HF HEL
 clear p3 hr
 obtain⟨q,HQ⟩:∃ q,Hid (endP ⟨path,act,s,n⟩=q):=⟨_,rfl⟩
 rw[HQ.out]at HF HEL
 go_enter Tryz.func103,Tryz.ntmps103
 go_wp2_with fail
 obtain⟨hB,rt,rp,c0,c1,q0,q1,q2,q3⟩:=HX.out _ (Below.refl _ _)
 refine (qQy act _).mono ?_
 cases he:Qu act
 ·rintro e w1 ⟨rfl,hb1⟩
  have hB1:=hB.trans (hb1.mono (by simp;omega))
  have HE:=hid he
  clear he
  go_wp2_with fail
  go_ret
  exact⟨Qf (by rw[HF.out,HE.out];rfl),hB1⟩
 rintro e w1 ⟨rfl,hb1⟩
 have HB1:=hid (hb1.mono (show w.heap.size+2<=_ by simp))
 have HE:=hid he
 clear hB rt rp c0 c1 q0 q1 q2 q3 hb1 he
 obtain⟨hB,rt,rp,c0,c1,q0,q1,q2,q3⟩:=HX.out _ HB1.out
 go_wp2_with fail
 refine (Kz ⟨path,act,s,n⟩ _ _ rp HO.out hl).mono ?_
 rw[HQ.out]
 rintro e w2 ⟨v2,rfl,ho2,hb2⟩
 have hsl2:=ho2.sl (by unfold Big;omega)
 have HB2:=hid (HB1.out.trans (hb2.mono (by have:=HB1.out.size;simpa using this)))
 clear hB rt rp c0 c1 q0 q1 q2 q3 hb2 ho2
 obtain⟨A6,n6,rfl,r1,r2,r3⟩:=hsl2
 unfold Big at r2
 have HSQ:Hid (∀ W,Below w2.heap.size w2 W->SlP W W.heap.size 1 StE (.slice A6 q.length n6) q):=fun W hW=>SlP.imp (E:=StE) ⟨A6,n6,rfl,r1,by unfold Big;omega,r3⟩ hW hW.size fun _ _ _ h=>h
 have hs2:=HB2.out.size
 simp only[World.size_alloc]at hs2
 go_wp2_with fail
 go_loopw [16] (fun i wr=>∃ k:Nat,k<=q.length/\i=.int .i64 k/\Hid (∀ j,j<k->fullAt t q j=false)/\Below w2.heap.size w2 wr) (fun i _=>q.length-(intOf i).toNat)
 case atStart=>exact⟨0,Nat.zero_le _,rfl,fun j hj=>absurd hj (Nat.not_lt_zero _),Below.refl _ _⟩
 case round=>
  obtain⟨k,hk,rfl,hno,hb⟩:=hrel
  have HBR:=hid hb
  have hsr:=hb.size
  clear hb
  have HXR:=hid (HX.out wr (HB2.out.trans (HBR.out.mono (by omega))))
  by_cases hlt:k<q.length
  ·obtain⟨x,hx⟩:∃ x,q[k]?=some x:=⟨_,List.getElem?_eq_getElem hlt⟩
   obtain⟨bq,offq,hA6,hbq,hcq⟩:=r3 (by rintro rfl;simp at hlt)
   subst hA6
   obtain⟨cs,⟨rfl,hok⟩,_,hu⟩:=hcq k _ hx
   have HE0:Hid (∀ W,Below w2.heap.size w2 W->W.cell? ⟨bq,offq+k,none⟩=some (.string x)):=fun W hW=>(hW.cell hbq).trans (by simpa using hu 0 _ rfl)
   have HXX:Hid ((q[k]?).getD ByteArray.empty=x):=by unfold Hid;rw[hx];rfl
   clear hu hcq r3 hx hok
   obtain⟨G,HG⟩:∃ G,Hid (getK t (q.take k)=G):=⟨_,rfl⟩
   have HGT:Hid (getT t (q.take k)=G):=(Vq HOR.out _).trans HG.out
   have hGz:G.sz<=4000:=by rw[←HG.out];exact Nat.le_trans (Q4 t _) hN
   have HFA:Hid (fullAt t q k=(decide (24<=G.ks.length)&&!hasK G x)):=by unfold Hid fullAt;rw[HG.out,HXX.out]
   have hk5:k<=n6:=by omega
   have hk6:(k:Int)<=(n6:Int):=by omega
   have hk7:(k:Int)<=(q.length:Int):=by omega
   have hk8:(0:Int)<=(k:Int):=by omega
   have hk9:k<=q.length:=by omega
   have hk10:¬(n6<k):=by omega
   have HKK:Hid (∀ W,Below wr.heap.size wr W->(W.cell? ⟨w.heap.size,0,none⟩=some (.slice A3 t.es.length n3)/\W.cell? ⟨w.heap.size,1,none⟩=some (.slice A4 t.ks.length n4))):=fun W hW=>by
    obtain⟨_,_,_,a0,a1,_⟩:=HX.out W (HB2.out.trans ((HBR.out.trans (hW.mono (by omega))).mono (by omega)))
    exact⟨a0,a1⟩
   have HY:Hid (∀ W,Below wr.heap.size wr W->(t.rd W W.heap.size (.slice A3 t.es.length n3) (.slice A4 t.ks.length n4)/\SlP W W.heap.size 1 StE (.slice (some ⟨bq,offq,none⟩) q.length n6) q)):=fun W hW=>by
    obtain⟨_,b,_⟩:=HX.out W (HB2.out.trans ((HBR.out.trans (hW.mono (by omega))).mono (by omega)))
    exact⟨b,HSQ.out W (HBR.out.trans (hW.mono (by omega)))⟩
   obtain⟨a0,a1⟩:=HKK.out wr (Below.refl _ _)
   have hw0:w.heap.size<wr.heap.size:=by omega
   go_upto_region 7 with (fail)
   go_cut [7] (fun s7 wx=>BoxT wr.heap.size wr 25 G s7 wx)
   case first=>
    go_region_held3 (fun W=>W.cell? ⟨w.heap.size,0,none⟩=some (.slice A3 t.es.length n3)/\W.cell? ⟨w.heap.size,1,none⟩=some (.slice A4 t.ks.length n4))
     (first|go_keep|exact HKK.out _ hbr4.out|exact HKK.out _ (hbr4.out.trans (by go_grown))|exact HKK.out _ ((hbr4.out.setCell (by first|(simp;done)|(simp;omega)) _).setCell (by first|(simp;done)|(simp;omega)) _)|exact HKK.out _ (by go_grown)|fail)
     (first
      |(go_at_call 50;go_loud ((refine (YR t (q.take k) _ _ _ _ (HY.out _ (by go_grown)).1 ((HY.out _ (by go_grown)).2.takeK (by omega)) (by omega)).mono ?_);rw[HGT.out];rintro e w4 ⟨xe4,xk4,rfl,hrd4,hb⟩;have hbr4:Hid (Below wr.heap.size wr w4):=hid (Below.trans (by go_grown) (hb.mono (by first|omega|(simp;done)|(simp;omega))));have hsr4:=hbr4.out.size;obtain⟨Ar4,nr4,Br4,mr4,hv1,hv2⟩:=Ql hrd4;subst hv1;subst hv2;have HR4:=hid hrd4;clear hrd4;(first|(have HG4:Hid (w4.heap[wr.heap.size]?=some (.cells #[.slice none 0 0,.slice none 0 0] 25 (0,0))):=hid (qYz hb);have k0:w4.cell? ⟨wr.heap.size,0,none⟩=some (.slice none 0 0):=Qa (i:=0) HG4.out;have k1:w4.cell? ⟨wr.heap.size,1,none⟩=some (.slice none 0 0):=Qa (i:=1) HG4.out;have z0:=Qb (i:=0) HG4.out;have z1:=Qb (i:=1) HG4.out;have hna0:w.heap.size≠wr.heap.size:=(by omega);have hnb0:wr.heap.size≠w.heap.size:=(by omega))|(have HG4:Hid (w4.heap[wr.heap.size]?=some (.cells #[.slice none 0 0,.slice none 0 0] 25 (0,0))):=hid (z_new hb);have k0:w4.cell? ⟨wr.heap.size,0,none⟩=some (.slice none 0 0):=Qa (i:=0) HG4.out;have k1:w4.cell? ⟨wr.heap.size,1,none⟩=some (.slice none 0 0):=Qa (i:=1) HG4.out;have z0:=Qb (i:=0) HG4.out;have z1:=Qb (i:=1) HG4.out;have hna0:w.heap.size≠wr.heap.size:=(by omega);have hnb0:wr.heap.size≠w.heap.size:=(by omega))|skip);clear hb)))
    all_goals
     go_wp2_with fail
     go_meet
     case rel=>first|exact zQ9 hbr4.out hbr4.out.size (by first|omega|(simp;done)|(simp;omega)) HR4.out|exact zZa HG4.out hbr4.out (by omega) (by first|(simp;done)|(simp;omega)) HR4.out
   case rest=>
    obtain⟨g,rfl,hgm,xe,xk,hG,hrd,hbz⟩:=hcut
    obtain⟨Aa,na,Ab,nb,rfl,rfl⟩:=Ql hrd
    have hgl:=lt_of_block hG
    obtain⟨wq,hwq⟩:∃ z:World,z=wc:=⟨wc,rfl⟩
    subst hwq
    have hGk:G.ks.length<=140737488355328:=by have:=es_sz G;omega
    have HQK:=hid (fun (w5:World) (hb5:Below wq.heap.size wq w5)=>qKi G x w5 _ _ (Zx hrd (fun b hb=>hb.2) hb5))
    obtain⟨b0,b1⟩:=bx2 hG
    have e0:=HE0.out wq (HBR.out.trans (hbz.mono (by omega)))
    have hsz:=hbz.size
    have hbql:bq<wq.heap.size:=by omega
    have f0:=Qh (B:=wq.heap.size) b0 hgl
    have f1:=Qh (B:=wq.heap.size) b1 hgl
    have f2:=Qh (B:=wq.heap.size) e0 hbql
    have HBZ:=hid hbz
    clear hG hrd hbz
    go_upto_region 8 with (fail)
    refine Qc wq.heap.size (by kernel_rfl) (by kernel_rfl) ?_
    by_cases h24:24<=G.ks.length
    ·have h24':decide ((24:Int)<=(G.ks.length:Int))=true:=by simp;omega
     repeat (go_big_quiet_step (first|(go_at_call 150;with_reducible exact Calls.far_all (Nat.le_refl _) HQK.out)))
     refine wpQuiet_nil ?_
     intro w6 hb6
     have HB6:=hid (HBR.out.trans ((HBZ.out.trans (hb6.mono (by omega))).mono (by omega)))
     have hB6:=(HX.out w6 (HB2.out.trans (HB6.out.mono (by omega)))).1
     clear f0 f1 f2 b0 b1 e0 hb6
     have HH:Hid (fullAt t q k = !(G.ks.any fun y=>decide (y.1=x))):=by unfold Hid;rw[HFA.out];unfold hasK;simp[h24]
     cases hkk:G.ks.any fun y=>decide (y.1=x)
     ·have HFK:Hid (fullAt t q k=true):=by unfold Hid;rw[HH.out,hkk];rfl
      clear hkk
      go_wp2_with fail
      go_ret
      exact⟨Qf (by rw[HF.out,HE.out,zZb hlt HFK.out];rfl),hB6⟩
     ·have HFK:Hid (fullAt t q k=false):=by unfold Hid;rw[HH.out,hkk];rfl
      clear hkk
      go_wp2_with fail
      go_roundw
      case rel=>
       refine⟨k+1,by omega,by go_num,fun j hj=>?_,HB6.out⟩
       rcases (show j<k∨j=k by omega) with h|rfl
       ·exact hno.out j h
       ·exact HFK.out
      case measure=>simp[intOf];omega
    ·have h24':decide ((24:Int)<=(G.ks.length:Int))=false:=by simp;omega
     repeat (go_big_quiet_step (first|(go_at_call 150;with_reducible exact Calls.far_all (Nat.le_refl _) HQK.out)))
     refine wpQuiet_nil ?_
     intro w6 hb6
     have HB6:=hid (HBR.out.trans ((HBZ.out.trans (hb6.mono (by omega))).mono (by omega)))
     clear f0 f1 f2 b0 b1 e0 hb6
     have HFK:Hid (fullAt t q k=false):=by unfold Hid;rw[HFA.out];simp[h24]
     go_wp2_with fail
     go_roundw
     case rel=>
      refine⟨k+1,by omega,by go_num,fun j hj=>?_,HB6.out⟩
      rcases (show j<k∨j=k by omega) with h|rfl
      ·exact hno.out j h
      ·exact HFK.out
     case measure=>simp[intOf];omega
  ·obtain rfl:k=q.length:=by omega
   have HNO:=hid (zX4 hno.out)
   obtain⟨hB,rt,rp,c0,c1,q0,q1,q2,q3⟩:=HXR.out
   have rq:=HSQ.out wr HBR.out
   by_cases ha:act=5
   ·subst ha
    obtain⟨G,HG⟩:∃ G,Hid (getK t q=G):=⟨_,rfl⟩
    have HGT:Hid (getT t q=G):=(Vq HOR.out _).trans HG.out
    have hGz:G.sz<=4000:=by rw[←HG.out];exact Nat.le_trans (Q4 t _) hN
    have hGe:G.es.length<=140737488355328:=by have:=es_sz G;omega
    rw[HG.out]at HF
    go_wp2_with fail
    refine (YR t q _ _ _ _ rt rq (by omega)).mono ?_
    rw[HGT.out]
    rintro e w4 ⟨xe4,xk4,rfl,hrd4,hb4⟩
    obtain⟨Ar4,nr4,Br4,mr4,rfl,rfl⟩:=Ql hrd4
    have hB4:=hB.trans (hb4.mono (by omega))
    have hfld:∀ W,(Instr.field 25 (.agg #[.slice Ar4 G.es.length nr4,.slice Br4 G.ks.length mr4]) 0).run Tryz.prog W=.ok (.slice Ar4 G.es.length nr4) W:=fun _=>rfl
    clear hrd4 c0 c1 q0 q1 q2 q3
    by_cases h24:24<=G.es.length
    ·have h24':decide ((24:Int)<=(G.es.length:Int))=true:=decide_eq_true (by omega)
     have HRR:Hid (fullB t ⟨path,5,s,n⟩=true):=by unfold Hid;rw[HF.out,HE.out,HNO.out,decide_eq_true h24];rfl
     go_wp2_with fail
     go_ret
     exact⟨Qf HRR.out.symm,hB4⟩
    ·have h24':decide ((24:Int)<=(G.es.length:Int))=false:=decide_eq_false (by omega)
     have HRR:Hid (fullB t ⟨path,5,s,n⟩=false):=by unfold Hid;rw[HF.out,HE.out,HNO.out,decide_eq_false h24];rfl
     go_wp2_with fail
     go_ret
     exact⟨Qf HRR.out.symm,hB4⟩
   ·have hne:(act==5)=false:=by simpa using ha
    have HA:=hid ha
    clear ha
    go_wp2_with fail
    go_ret
    exact⟨Qf (by rw[HF.out,HE.out,HNO.out];simp[HA.out]),hB⟩
theorem KA {u:Tr}(h:u.right 5=true):∀ d∈u.dots,0<=d.n/\d.n<=1099511627778:=fun d hd=>by
 have:=QI h d hd
 unfold Dt.right at this
 simp at this
 omega
theorem Jo (t:Tr)(o:Opr)(ve vk vp:Value)(w:World)(h:t.rd w w.heap.size ve vk)(hp:SlP w w.heap.size 1 StE vp o.path)(ho:o.Ok)(hr:t.right 5=true)(hl:o.path.length<=1000)(hN:t.sz<=4000) :
  Calls Tryz.prog 106 #[.agg #[ve,vk],.agg #[vp,.int .i64 o.act,.string o.s,.int .i64 o.n]] w (RetO w 45 3 (fun _=>SpE) (ctxOf (seesD t o))):=by
 have HOR:=hid (ZL _ _ hr)
 have HC:Hid (∀ w',Below w.heap.size w w'->t.rd w' w'.heap.size ve vk):=fun w' hb=>Qi hb hb.size _ _ _ h
 have HD:Hid (∀ w',Below w.heap.size w w'->SlP w' w'.heap.size 1 StE vp o.path):=fun w' hb=>hp.imp hb hb.size fun _ _ _ h=>h
 obtain⟨A3,n3,A4,n4,rfl,rfl⟩:=Qj h
 obtain⟨A5,n5,rfl,p1,p2,p3⟩:=hp
 unfold Big at p2
 have HO:=hid ho
 obtain⟨oa,on,os⟩:=ho
 obtain⟨path,act,s,n⟩:=o
 simp only at oa on os p1 p2 p3 HD HO hl ⊢
 have HX:Hid (∀ W,Below (w.heap.size+2) ((w.alloc (.cells #[.slice A3 t.es.length n3,.slice A4 t.ks.length n4] 25)).alloc (.cells #[.slice A5 path.length n5,.int .i64 act,.string s,.int .i64 n] 65)) W ->
   (Below w.heap.size w W/\t.rd W W.heap.size (.slice A3 t.es.length n3) (.slice A4 t.ks.length n4)/\SlP W W.heap.size 1 StE (.slice A5 path.length n5) path/\W.cell? ⟨w.heap.size,0,none⟩=some (.slice A3 t.es.length n3)/\W.cell? ⟨w.heap.size,1,none⟩=some (.slice A4 t.ks.length n4)/\W.cell? ⟨w.heap.size+1,0,none⟩=some (.slice A5 path.length n5)/\W.cell? ⟨w.heap.size+1,1,none⟩=some (.int .i64 act)/\W.cell? ⟨w.heap.size+1,2,none⟩=some (.string s)/\W.cell? ⟨w.heap.size+1,3,none⟩=some (.int .i64 n))):=fun W hW=>by
  have g0:W.heap[w.heap.size]?=some (.cells #[.slice A3 t.es.length n3,.slice A4 t.ks.length n4] 25 (0,0)):=(hW.block _ (by omega)).trans ((Qg (by simp)).trans (Qd rfl))
  have g1:W.heap[w.heap.size+1]?=some (.cells #[.slice A5 path.length n5,.int .i64 act,.string s,.int .i64 n] 65 (0,0)):=(hW.block _ (by omega)).trans (Qd (by simp))
  have hB:=(((Below.refl w.heap.size w).alloc (Nat.le_refl _) (.cells #[.slice A3 t.es.length n3,.slice A4 t.ks.length n4] 25)).alloc (by simp) (.cells #[.slice A5 path.length n5,.int .i64 act,.string s,.int .i64 n] 65)).trans (hW.mono (by omega))
  exact⟨hB,HC.out _ hB,HD.out _ hB,Qa (i:=0) g0,Qa (i:=1) g0,Qa (i:=0) g1,Qa (i:=1) g1,Qa (i:=2) g1,Qa (i:=3) g1⟩
 clear h
 clear p3
 obtain⟨u,HU⟩:∃ u,Hid (getK t path=u):=⟨_,rfl⟩
 have HUT:Hid (getT t path=u):=(Vq HOR.out _).trans HU.out
 have hUz:u.sz<=4000:=by rw[←HU.out];exact Nat.le_trans (Q4 t _) hN
 have HUR:Hid (u.right 5=true):=by unfold Hid;rw[←HU.out];exact Q7 hr _
 have HUO:=hid (ZL _ _ HUR.out)
 have HS7:Hid (∀ a,(a≠3/\a≠4/\a≠5/\a≠6)->seesD t ⟨path,a,s,n⟩=u.dots):=fun a ha=>by unfold seesD;simp only;rw[if_neg (by omega),if_neg (by omega),if_neg (by omega),HU.out]
 have HS3:Hid (∀ a,(a=3∨a=4)->seesD t ⟨path,a,s,n⟩=(getK u [s]).dots):=fun a ha=>by unfold seesD;simp only;rw[if_pos ha,VD,HU.out]
 have HS5:Hid (seesD t ⟨path,5,s,n⟩=[]):=by unfold Hid seesD;simp
 have HS6:Hid (seesD t ⟨path,6,s,n⟩=ownD u):=by unfold Hid seesD;simp[HU.out]
 clear hr
 go_enter Tryz.func106,Tryz.ntmps106
 go_wp2_with fail
 obtain⟨hB,rt,rp,c0,c1,q0,q1,q2,q3⟩:=HX.out _ (Below.refl _ _)
 refine (YR t path _ _ _ _ rt rp (by omega)).mono ?_
 rw[HUT.out]
 rintro e w1 ⟨xe1,xk1,rfl,hrd1,hb1⟩
 obtain⟨Ar,nr,Br,mr,rfl,rfl⟩:=Ql hrd1
 have HB1:=hid (hb1.mono (show w.heap.size+2<=_ by simp))
 have hs1:=HB1.out.size
 simp only[World.size_alloc]at hs1
 have HY:Hid (∀ W,Below (w1.heap.size+1) (w1.alloc (.cells #[.slice Ar u.es.length nr,.slice Br u.ks.length mr] 25)) W->(Below w.heap.size w W/\u.rd W W.heap.size (.slice Ar u.es.length nr) (.slice Br u.ks.length mr)/\W.heap[w1.heap.size]?=some (.cells #[.slice Ar u.es.length nr,.slice Br u.ks.length mr] 25 (0,0))/\W.cell? ⟨w.heap.size+1,1,none⟩=some (.int .i64 act)/\W.cell? ⟨w.heap.size+1,2,none⟩=some (.string s))):=fun W hW=>by
  have g:=(hW.block w1.heap.size (by omega)).trans (Qd rfl)
  have hB1:=((Below.refl _ w1).alloc (Nat.le_refl _) _).trans (hW.mono (by omega))
  obtain⟨b0,_,_,_,_,_,b1,b2,_⟩:=HX.out W (HB1.out.trans (hB1.mono (by omega)))
  exact⟨b0,Zx hrd1 (fun b hb=>hb.2) hB1,g,b1,b2⟩
 clear hB rt rp c0 c1 q0 q1 q2 q3 hb1 hrd1
 obtain⟨hB,ru,gx,q1,q2⟩:=HY.out _ (Below.refl _ _)
 obtain⟨x0,x1⟩:=bx2 gx
 by_cases h34:act=3∨act=4
 ·have HSD:=hid (HS3.out act h34)
  obtain⟨G,HG⟩:∃ G,Hid (getK u [s]=G):=⟨_,rfl⟩
  have HGT:Hid (getT u [s]=G):=(Vq HUO.out _).trans HG.out
  have hGz:G.sz<=4000:=by rw[←HG.out];exact Nat.le_trans (Q4 u _) hUz
  have HGR:Hid (G.right 5=true):=by unfold Hid;rw[←HG.out];exact Q7 HUR.out _
  have HSL:Hid (SlP ((w1.alloc (.cells #[.slice Ar u.es.length nr,.slice Br u.ks.length mr] 25)).alloc (.cells #[.string s] 9)) ((w1.alloc (.cells #[.slice Ar u.es.length nr,.slice Br u.ks.length mr] 25)).alloc (.cells #[.string s] 9)).heap.size 1 StE (.slice (some ⟨w1.heap.size+1,0,none⟩) 1 1) [s]):=hid (by
   have:=SlP.oneB (E:=StE) (w:=w1.alloc (.cells #[.slice Ar u.es.length nr,.slice Br u.ks.length mr] 25)) (n:=w1.heap.size+1) (B:=w1.heap.size+2) (x:=s) (cs:=[.string s]) ⟨rfl,os⟩ rfl 9 (by simp) (by omega)
   simpa using this)
  have hb2z:Below (w1.heap.size+1) (w1.alloc (.cells #[.slice Ar u.es.length nr,.slice Br u.ks.length mr] 25)) ((w1.alloc (.cells #[.slice Ar u.es.length nr,.slice Br u.ks.length mr] 25)).alloc (.cells #[.string s] 9)):=(Below.refl _ _).alloc (by simp) _
  have HR2:=hid (HY.out _ hb2z).2.1
  have HB2Z:=hid hb2z
  clear hb2z
  have hds:=hid (KA HGR.out)
  clear hB ru gx
  rcases h34 with rfl|rfl<;>(
   go_wp2_with fail
   refine (YR u [s] _ _ _ _ HR2.out HSL.out (by omega)).mono ?_
   rw[HGT.out]
   rintro e w2 ⟨xe2,xk2,rfl,hrd2,hb2⟩
   obtain⟨Ar2,nr2,Br2,mr2,rfl,rfl⟩:=Ql hrd2
   have HB2:=hid (HB2Z.out.trans (hb2.mono (by simp)))
   have hs2:=HB2.out.size
   simp only[World.size_alloc]at hs2
   clear q1 q2 x0 x1
   obtain⟨hB,_,gx,_,_⟩:=HY.out _ HB2.out
   have HGX:=hid gx
   have HBX:=hid hB
   have HRD:=hid hrd2
   obtain⟨x0,x1,z0,z1⟩:=bz2 gx
   clear gx hB hrd2 hb2
   go_wp2_with fail
   obtain⟨y0,y1,hK,hS⟩:=ZZ HGX.out HRD.out (fun b hb=>by have:=hb.1;simp at this;omega)
   have HR3:=Zx hK (fun b hb=>by rw[hS];exact hb.2) (Below.refl _ _)
   have HBW:=hid ((HBX.out.setCell (p:=⟨w1.heap.size,0,none⟩) (by simp;omega) (.slice Ar2 G.es.length nr2)).setCell (p:=⟨w1.heap.size,1,none⟩) (by simp;omega) (.slice Br2 G.ks.length mr2))
   refine (Zl G _ _ _ HR3 (by omega) hds.out).mono ?_
   rintro e w3 ⟨v3,rfl,ho3,hb3⟩
   have hs3:w.heap.size<=((w2.setCell ⟨w1.heap.size,0,none⟩ (.slice Ar2 G.es.length nr2)).setCell ⟨w1.heap.size,1,none⟩ (.slice Br2 G.ks.length mr2)).heap.size:=HBW.out.size
   clear x0 x1 z0 z1 y0 y1
   go_wp2_with fail
   go_ret
   exact⟨_,rfl,by rw[HSD.out,HG.out];exact ho3.mono hs3,HBW.out.trans (hb3.mono hs3)⟩)
 by_cases h5:act=5
 ·subst h5
  have HB:=hid hB
  clear hB ru gx
  go_wp2_with fail
  go_ret
  exact⟨_,rfl,by rw[HS5.out];exact OwnP.nil,HB.out⟩
 by_cases h6:act=6
 ·subst h6
  have HB:=hid hB
  have HRu:=hid ru
  have hds:Hid (∀ d∈ownD u,0<=d.n/\d.n<=1099511627778):=fun d hd=>KA HUR.out d (qQu hd)
  clear hB ru gx
  go_wp2_with fail
  refine (qKj u _ _ _ HRu.out (by omega) hds.out).mono ?_
  rintro e w3 ⟨v3,rfl,ho3,hb3⟩
  go_wp2_with fail
  go_ret
  exact⟨_,rfl,by rw[HS6.out];exact ho3.mono (by simp;omega),HB.out.trans (hb3.mono (by simp;omega))⟩
 ·have HSD:=hid (HS7.out act ⟨by omega,by omega,h5,h6⟩)
  have HB:=hid hB
  have HRu:=hid ru
  have hds:=hid (KA HUR.out)
  have e3:(act==3)=false:=by simp;omega
  have e4:(act==4)=false:=by simp;omega
  have e5:(act==5)=false:=by simpa using h5
  have e6:(act==6)=false:=by simpa using h6
  clear hB ru gx h34 h5 h6
  go_wp2_with fail
  refine (Zl u _ _ _ HRu.out (by omega) hds.out).mono ?_
  rintro e w3 ⟨v3,rfl,ho3,hb3⟩
  go_wp2_with fail
  go_ret
  exact⟨_,rfl,by rw[HSD.out];exact ho3.mono (by simp;omega),HB.out.trans (hb3.mono (by simp;omega))⟩
theorem zX5 {t:Tr}(o:Opr)(hN:t.sz<=200):(ctxOf (seesD t o)).length<=5000:=by
 have h1:=QL (seesD t o)
 have h2:=qYv t o
 omega
theorem zY2 {t:Tr}{o:Opr}{d:Dt}(h:appI t o d=0):ctxBy (ctxOf (seesD t o)) [⟨d.dc,d.n,d.n⟩] 0=appC t o d:=by
 obtain⟨h1,h2,h3,_⟩:=Km h
 obtain⟨g1,g2,g3⟩:=Zu h3
 unfold appC
 rw[if_pos h,zX2 g2 fun x hx=>QI h1 x (Jk h1 x hx)]
theorem qQ4 (t:Tr)(o:Opr)(d:Dt)(ve vk vp:Value)(w:World)(h:t.rd w w.heap.size ve vk)(hp:SlP w w.heap.size 1 StE vp o.path)(ho:o.Ok)(hd:d.Ok)(hl:o.path.length<=1000)(hN:t.sz<=200) :
  Calls Tryz.prog 62 #[.agg #[ve,vk],.agg #[vp,.int .i64 o.act,.string o.s,.int .i64 o.n],.agg #[.int .i64 d.dc,.int .i64 d.n]] w (RetCE w (appT t o d) (appC t o d) (appI t o d)):=by
 have HC:Hid (∀ w',Below w.heap.size w w'->t.rd w' w'.heap.size ve vk):=fun w' hb=>Qi hb hb.size _ _ _ h
 have HD:Hid (∀ w',Below w.heap.size w w'->SlP w' w'.heap.size 1 StE vp o.path):=fun w' hb=>hp.imp hb hb.size fun _ _ _ h=>h
 obtain⟨A3,n3,A4,n4,rfl,rfl⟩:=Qj h
 obtain⟨A5,n5,rfl,p1,p2,p3⟩:=hp
 unfold Big at p2
 have HO:=hid ho
 obtain⟨oa,on,os⟩:=ho
 obtain⟨path,act,s,n⟩:=o
 simp only at oa on os p1 p2 p3 HD HO hl ⊢
 have hb0:=((((Below.refl w.heap.size w).alloc (Nat.le_refl _) (.cells #[.slice A3 t.es.length n3,.slice A4 t.ks.length n4] 25)).alloc (by simp) (.cells #[.slice A5 path.length n5,.int .i64 act,.string s,.int .i64 n] 65)).alloc (by simp;omega) (.cells #[.int .i64 d.dc,.int .i64 d.n] 78)).alloc (by simp;omega) (.cells #[.slice none 0 0,.slice none 0 0,.slice none 0 0] 29)
 have HX:Hid (∀ W,Below (w.heap.size+4) ((((w.alloc (.cells #[.slice A3 t.es.length n3,.slice A4 t.ks.length n4] 25)).alloc (.cells #[.slice A5 path.length n5,.int .i64 act,.string s,.int .i64 n] 65)).alloc (.cells #[.int .i64 d.dc,.int .i64 d.n] 78)).alloc (.cells #[.slice none 0 0,.slice none 0 0,.slice none 0 0] 29)) W ->
   (Below w.heap.size w W/\t.rd W W.heap.size (.slice A3 t.es.length n3) (.slice A4 t.ks.length n4)/\SlP W W.heap.size 1 StE (.slice A5 path.length n5) path/\W.cell? ⟨w.heap.size,0,none⟩=some (.slice A3 t.es.length n3)/\W.cell? ⟨w.heap.size,1,none⟩=some (.slice A4 t.ks.length n4)/\W.cell? ⟨w.heap.size+1,0,none⟩=some (.slice A5 path.length n5)/\W.cell? ⟨w.heap.size+1,1,none⟩=some (.int .i64 act)/\W.cell? ⟨w.heap.size+1,2,none⟩=some (.string s)/\W.cell? ⟨w.heap.size+1,3,none⟩=some (.int .i64 n) /\
    W.cell? ⟨w.heap.size+2,0,none⟩=some (.int .i64 d.dc)/\W.cell? ⟨w.heap.size+2,1,none⟩=some (.int .i64 d.n)/\W.heap[w.heap.size+3]?=some (.cells #[.slice none 0 0,.slice none 0 0,.slice none 0 0] 29 (0,0)))):=fun W hW=>by
  have g0:W.heap[w.heap.size]?=some (.cells #[.slice A3 t.es.length n3,.slice A4 t.ks.length n4] 25 (0,0)):=(hW.block _ (by omega)).trans ((Qg (by simp<;>omega)).trans ((Qg (by simp<;>omega)).trans ((Qg (by simp)).trans (Qd rfl))))
  have g1:W.heap[w.heap.size+1]?=some (.cells #[.slice A5 path.length n5,.int .i64 act,.string s,.int .i64 n] 65 (0,0)):=(hW.block _ (by omega)).trans ((Qg (by simp<;>omega)).trans ((Qg (by simp)).trans (Qd (by simp))))
  have g2:W.heap[w.heap.size+2]?=some (.cells #[.int .i64 d.dc,.int .i64 d.n] 78 (0,0)):=(hW.block _ (by omega)).trans ((Qg (by simp)).trans (Qd (by simp)))
  have g3:W.heap[w.heap.size+3]?=some (.cells #[.slice none 0 0,.slice none 0 0,.slice none 0 0] 29 (0,0)):=(hW.block _ (by omega)).trans (Qd (by simp))
  have hB:=hb0.trans (hW.mono (by omega))
  exact⟨hB,HC.out _ hB,HD.out _ hB,Qa (i:=0) g0,Qa (i:=1) g0,Qa (i:=0) g1,Qa (i:=1) g1,Qa (i:=2) g1,Qa (i:=3) g1,Qa (i:=0) g2,Qa (i:=1) g2,g3⟩
 clear h p3
 go_enter Tryz.func62,Tryz.ntmps62
 go_wp2_with fail
 obtain⟨hB,rt,rp,c0,c1,p4,p5,p6,p7,d0,d1,g3⟩:=HX.out _ (Below.refl _ _)
 refine (QO t _ _ _ rt).mono ?_
 cases ht:t.right 5
 ·rintro e w1 ⟨rfl,hb1⟩
  have HBN:=hid (hb1.mono (show w.heap.size+4<=_ by simp))
  have hAE:appI t ⟨path,act,s,n⟩ d=1:=by unfold appI;rw[ht];rfl
  have HAE:=hid hAE
  obtain⟨hAT,hAC⟩:=YP (t:=t) (o:=⟨path,act,s,n⟩) (d:=d) (by rw[hAE];first|decide|assumption)
  have HAT:=hid hAT
  have HAC:=hid hAC
  clear hAE hAT hAC
  clear hB rt rp c0 c1 p4 p5 p6 p7 d0 d1 g3 ht hb1
  have hG:=(HX.out _ HBN.out).2.2.2.2.2.2.2.2.2.2.2
  have hBz:=(HX.out _ HBN.out).1
  have HG:=hid hG
  have HBZ:=hid hBz
  obtain⟨k0,k1,k2,z0,z1,z2⟩:=bz3 hG
  clear hG hBz
  go_wp2_with fail
  obtain⟨r0,r1,r2,q1,q2,q3⟩:=QS (N:=w.heap.size+4) (T:=.mk [] []) (C:=[]) HG.out HBZ.out (by omega) (by omega) (Qp _ _) SlA.nil
  exact bodyPost_ret (v:=.tuple #[.agg #[.slice none 0 0,.slice none 0 0,.slice none 0 0],.int .i64 1]) (by simp[results,Tryz.results62,go_sem,r0,r1,r2]<;>rfl) rfl ⟨_,_,_,by rw[HAE.out],by rw[HAT.out];exact q1,by rw[HAC.out];exact q2,q3⟩
 rintro e w1 ⟨rfl,hb1⟩
 have HBN:=hid (hb1.mono (show w.heap.size+4<=_ by simp))
 clear hB rt rp c0 c1 p4 p5 p6 p7 d0 d1 g3 hb1
 obtain⟨hB,rt,rp,c0,c1,p4,p5,p6,p7,d0,d1,g3⟩:=HX.out _ HBN.out
 have HT:=hid ht
 clear ht
 go_wp2_with fail
 refine (qUk ⟨path,act,s,n⟩ _ _ rp HO.out).mono ?_
 by_cases hi:opI ⟨path,act,s,n⟩=0
 case neg=>
  rintro e w2 ⟨rfl,hb2⟩
  have HBN2:=hid (HBN.out.trans (hb2.mono (by have:=HBN.out.size;simpa using this)))
  have hne:(opI ⟨path,act,s,n⟩==0)=false:=by simpa using hi
  have hAE:appI t ⟨path,act,s,n⟩ d=(opI ⟨path,act,s,n⟩):=by unfold appI;rw[HT.out];simp only[Bool.not_true,Bool.false_eq_true,if_false];rw[if_pos hi]
  have HAE:=hid hAE
  obtain⟨hAT,hAC⟩:=YP (t:=t) (o:=⟨path,act,s,n⟩) (d:=d) (by rw[hAE];first|decide|assumption)
  have HAT:=hid hAT
  have HAC:=hid hAC
  clear hAE hAT hAC
  clear hB rt rp c0 c1 p4 p5 p6 p7 d0 d1 g3 hb2 hi HBN
  have HBN:=HBN2
  have hG:=(HX.out _ HBN.out).2.2.2.2.2.2.2.2.2.2.2
  have hBz:=(HX.out _ HBN.out).1
  have HG:=hid hG
  have HBZ:=hid hBz
  obtain⟨k0,k1,k2,z0,z1,z2⟩:=bz3 hG
  clear hG hBz
  go_wp2_with fail
  obtain⟨r0,r1,r2,q1,q2,q3⟩:=QS (N:=w.heap.size+4) (T:=.mk [] []) (C:=[]) HG.out HBZ.out (by omega) (by omega) (Qp _ _) SlA.nil
  exact bodyPost_ret (v:=.tuple #[.agg #[.slice none 0 0,.slice none 0 0,.slice none 0 0],.int .i64 (opI ⟨path,act,s,n⟩)]) (by simp[results,Tryz.results62,go_sem,r0,r1,r2]<;>rfl) rfl ⟨_,_,_,by rw[HAE.out],by rw[HAT.out];exact q1,by rw[HAC.out];exact q2,q3⟩
 rw[hi]
 rintro e w2 ⟨rfl,hb2⟩
 have HBN2:=hid (HBN.out.trans (hb2.mono (by have:=HBN.out.size;simpa using this)))
 have HI:=hid hi
 clear hB rt rp c0 c1 p4 p5 p6 p7 d0 d1 g3 hb2 hi HBN
 have HBN:=HBN2
 clear HBN2
 obtain⟨hB,rt,rp,c0,c1,p4,p5,p6,p7,d0,d1,g3⟩:=HX.out _ HBN.out
 go_wp2_with fail
 refine (V8 t d _ _ _ rt (by omega)).mono ?_
 cases hk:chkT t d
 ·rintro e w3 ⟨rfl,hb3⟩
  have HBN2:=hid (HBN.out.trans (hb3.mono (by have:=HBN.out.size;simpa using this)))
  have hAE:appI t ⟨path,act,s,n⟩ d=1:=by unfold appI;rw[HT.out,HI.out,hk];rfl
  have HAE:=hid hAE
  obtain⟨hAT,hAC⟩:=YP (t:=t) (o:=⟨path,act,s,n⟩) (d:=d) (by rw[hAE];first|decide|assumption)
  have HAT:=hid hAT
  have HAC:=hid hAC
  clear hAE hAT hAC
  clear hB rt rp c0 c1 p4 p5 p6 p7 d0 d1 g3 hb3 hk HBN
  have HBN:=HBN2
  have hG:=(HX.out _ HBN.out).2.2.2.2.2.2.2.2.2.2.2
  have hBz:=(HX.out _ HBN.out).1
  have HG:=hid hG
  have HBZ:=hid hBz
  obtain⟨k0,k1,k2,z0,z1,z2⟩:=bz3 hG
  clear hG hBz
  go_wp2_with fail
  obtain⟨r0,r1,r2,q1,q2,q3⟩:=QS (N:=w.heap.size+4) (T:=.mk [] []) (C:=[]) HG.out HBZ.out (by omega) (by omega) (Qp _ _) SlA.nil
  exact bodyPost_ret (v:=.tuple #[.agg #[.slice none 0 0,.slice none 0 0,.slice none 0 0],.int .i64 1]) (by simp[results,Tryz.results62,go_sem,r0,r1,r2]<;>rfl) rfl ⟨_,_,_,by rw[HAE.out],by rw[HAT.out];exact q1,by rw[HAC.out];exact q2,q3⟩
 rintro e w3 ⟨rfl,hb3⟩
 have HBN2:=hid (HBN.out.trans (hb3.mono (by have:=HBN.out.size;simpa using this)))
 have HK:=hid hk
 clear hB rt rp c0 c1 p4 p5 p6 p7 d0 d1 g3 hb3 hk HBN
 have HBN:=HBN2
 clear HBN2
 obtain⟨hB,rt,rp,c0,c1,p4,p5,p6,p7,d0,d1,g3⟩:=HX.out _ HBN.out
 go_wp2_with fail
 refine (qKk t ⟨path,act,s,n⟩ _ _ _ _ rt rp HO.out HT.out hl (by omega)).mono ?_
 cases hf:fullB t ⟨path,act,s,n⟩
 case true=>
  rintro e w4 ⟨rfl,hb4⟩
  have HBN2:=hid (HBN.out.trans (hb4.mono (by have:=HBN.out.size;simpa using this)))
  have hAE:appI t ⟨path,act,s,n⟩ d=4:=by unfold appI;rw[HT.out,HI.out,HK.out,hf];rfl
  have HAE:=hid hAE
  obtain⟨hAT,hAC⟩:=YP (t:=t) (o:=⟨path,act,s,n⟩) (d:=d) (by rw[hAE];first|decide|assumption)
  have HAT:=hid hAT
  have HAC:=hid hAC
  clear hAE hAT hAC
  clear hB rt rp c0 c1 p4 p5 p6 p7 d0 d1 g3 hb4 hf HBN
  have HBN:=HBN2
  have hG:=(HX.out _ HBN.out).2.2.2.2.2.2.2.2.2.2.2
  have hBz:=(HX.out _ HBN.out).1
  have HG:=hid hG
  have HBZ:=hid hBz
  obtain⟨k0,k1,k2,z0,z1,z2⟩:=bz3 hG
  clear hG hBz
  go_wp2_with fail
  obtain⟨r0,r1,r2,q1,q2,q3⟩:=QS (N:=w.heap.size+4) (T:=.mk [] []) (C:=[]) HG.out HBZ.out (by omega) (by omega) (Qp _ _) SlA.nil
  exact bodyPost_ret (v:=.tuple #[.agg #[.slice none 0 0,.slice none 0 0,.slice none 0 0],.int .i64 4]) (by simp[results,Tryz.results62,go_sem,r0,r1,r2]<;>rfl) rfl ⟨_,_,_,by rw[HAE.out],by rw[HAT.out];exact q1,by rw[HAC.out];exact q2,q3⟩
 rintro e w4 ⟨rfl,hb4⟩
 have HBN2:=hid (HBN.out.trans (hb4.mono (by have:=HBN.out.size;simpa using this)))
 have HAE:Hid (appI t ⟨path,act,s,n⟩ d=0):=by unfold Hid appI;rw[HT.out,HI.out,HK.out,hf];rfl
 clear hB rt rp c0 c1 p4 p5 p6 p7 d0 d1 g3 hb4 hf HBN
 have HBN:=HBN2
 clear HBN2
 obtain⟨hB,rt,rp,c0,c1,p4,p5,p6,p7,d0,d1,g3⟩:=HX.out _ HBN.out
 go_wp2_with fail
 refine (qQy act _).mono ?_
 obtain⟨ga,gb,gc,gd⟩:=Km HAE.out
 have HDR:Hid (d.right=true):=(Zu gc).2.1
 have hcl:=zX5 (t:=t) ⟨path,act,s,n⟩ hN
 have HCR:Hid (∀ x∈seesD t ⟨path,act,s,n⟩,x.right=true):=fun x hx=>QI ga x (Jk ga x hx)
 obtain⟨C,HCE⟩:∃ C,Hid (ctxOf (seesD t ⟨path,act,s,n⟩)=C):=⟨_,rfl⟩
 have HPE:Hid (ctxBy C [⟨d.dc,d.n,d.n⟩] 0=appC t ⟨path,act,s,n⟩ d):=by unfold Hid;rw[←HCE.out];exact zY2 HAE.out
 have HSO:Hid (SpsOk C):=by unfold Hid;rw[←HCE.out];exact Xb HCR.out
 have HSD:Hid (SpsOk [⟨d.dc,d.n,d.n⟩]):=by
  unfold Hid;rw[←qVl HDR.out];exact Xb (ZR HDR.out)
 rw[HCE.out]at hcl
 have HKY:=hid (XO gb)
 have hel:=(XO gb).2.2.1
 clear ga gb gc gd
 cases he:Qu act
 ·rintro e w5 ⟨rfl,hb5⟩
  have HBN2:=hid (HBN.out.trans (hb5.mono (by have:=HBN.out.size;simpa using this)))
  have HAT:Hid (appT t ⟨path,act,s,n⟩ d=.mk [] []):=by unfold Hid appT;simp only[he];simp
  clear hB rt rp c0 c1 p4 p5 p6 p7 d0 d1 g3 hb5 he HBN
  have HBN:=HBN2
  clear HBN2
  obtain⟨hB,rt,rp,c0,c1,p4,p5,p6,p7,d0,d1,g3⟩:=HX.out _ HBN.out
  have hs5:=HBN.out.size
  simp only[World.size_alloc]at hs5
  have HKK:Hid (∀ W,Below w5.heap.size w5 W->(W.cell? ⟨w.heap.size,0,none⟩=some (.slice A3 t.es.length n3)/\W.cell? ⟨w.heap.size,1,none⟩=some (.slice A4 t.ks.length n4)/\W.cell? ⟨w.heap.size+1,0,none⟩=some (.slice A5 path.length n5)/\W.cell? ⟨w.heap.size+1,1,none⟩=some (.int .i64 act)/\W.cell? ⟨w.heap.size+1,2,none⟩=some (.string s)/\W.cell? ⟨w.heap.size+1,3,none⟩=some (.int .i64 n)/\W.cell? ⟨w.heap.size+2,0,none⟩=some (.int .i64 d.dc)/\W.cell? ⟨w.heap.size+2,1,none⟩=some (.int .i64 d.n))):=fun W hW=>by
   obtain⟨_,_,_,a0,a1,a2,a3,a4,a5,a6,a7,_⟩:=HX.out W (HBN.out.trans (hW.mono (by omega)))
   exact⟨a0,a1,a2,a3,a4,a5,a6,a7⟩
  have HGZ:Hid (∀ W,Below w5.heap.size w5 W->W.heap[w.heap.size+3]?=some (.cells #[.slice none 0 0,.slice none 0 0,.slice none 0 0] 29 (0,0))):=fun W hW=>(HX.out W (HBN.out.trans (hW.mono (by omega)))).2.2.2.2.2.2.2.2.2.2.2
  have HRT:=hid rt
  have HRP:=hid rp
  have HBB:=hid hB
  have HY:Hid (∀ W,Below w5.heap.size w5 W->(t.rd W W.heap.size (.slice A3 t.es.length n3) (.slice A4 t.ks.length n4)/\SlP W W.heap.size 1 StE (.slice A5 path.length n5) path)):=fun W hW=>⟨Qi hW hW.size _ _ _ HRT.out,HRP.out.imp hW hW.size fun _ _ _ h=>h⟩
  have HDO:=hid hd
  clear rt rp hB g3
  have hn0:¬(w.heap.size=w.heap.size+1+1+1):=by omega
  have hn1:¬(w.heap.size+1+1+1=w.heap.size):=by omega
  have hn2:¬(w.heap.size+1=w.heap.size+1+1+1):=by omega
  have hn3:¬(w.heap.size=w.heap.size+1+1):=by omega
  have hn4:¬(w.heap.size+1+1=w.heap.size):=by omega
  have hn5:¬(w.heap.size+1+1+1=w5.heap.size):=by omega
  have hn6:¬(w5.heap.size=w.heap.size+1+1+1):=by omega
  go_upto_region 11 with (fail)
  go_region_held3 (fun W=>W.cell? ⟨w.heap.size,0,none⟩=some (.slice A3 t.es.length n3)/\W.cell? ⟨w.heap.size,1,none⟩=some (.slice A4 t.ks.length n4)/\W.cell? ⟨w.heap.size+1,0,none⟩=some (.slice A5 path.length n5)/\W.cell? ⟨w.heap.size+1,1,none⟩=some (.int .i64 act)/\W.cell? ⟨w.heap.size+1,2,none⟩=some (.string s)/\W.cell? ⟨w.heap.size+1,3,none⟩=some (.int .i64 n)/\W.cell? ⟨w.heap.size+2,0,none⟩=some (.int .i64 d.dc)/\W.cell? ⟨w.heap.size+2,1,none⟩=some (.int .i64 d.n))
   (first|go_keep|exact HKK.out _ hbr7.out|exact HKK.out _ hbr6.out|exact HKK.out _ (by go_grown)|fail)
   (first
    |(go_at_call 106;go_loud ((refine (Jo t ⟨path,act,s,n⟩ _ _ _ _ (HY.out _ (by go_grown)).1 (HY.out _ (by go_grown)).2 HO.out HT.out hl (by omega)).mono ?_);rw[HCE.out];rintro e w6 ⟨v6,rfl,ho6,hb⟩;obtain⟨A6,c6,hv6⟩:=ho6.shape;subst hv6;have hbr6:Hid (Below w5.heap.size w5 w6):=hid (Below.trans (by go_grown) (hb.mono (by first|omega|(simp;done)|(simp;omega))));have hsr6:=hbr6.out.size;have HS6:=hid (ho6.sl (by unfold Big;omega));clear ho6 hb))
    |(go_at_call 105;go_loud ((refine (qXa d C _ w6 HDO.out HS6.out (by omega) HSO.out HSD.out).mono ?_);rw[HPE.out];rintro e w7 ⟨ve7,vk7,vc7,rfl,hrd7,hsl7,hb⟩;obtain⟨Ar7,nr7,Br7,mr7,hv1,hv2⟩:=Ql hrd7;subst hv1;subst hv2;obtain⟨Dr7,kr7,hv3⟩:=hsl7.shape;subst hv3;have hbr7:Hid (Below w5.heap.size w5 w7):=hid (hbr6.out.trans (hb.mono (by omega)));have hsr7:=hbr7.out.size;have HR7:=hid hrd7;have HL7:=hid hsl7;have HG7:=hid (HGZ.out _ hbr7.out);have k0:=Qa (i:=0) HG7.out;have k1:=Qa (i:=1) HG7.out;have k2:=Qa (i:=2) HG7.out;simp only[List.getElem?_toArray,List.getElem?_cons_zero,List.getElem?_cons_succ]at k0 k1 k2;have z0:=Qb (i:=0) HG7.out;have z1:=Qb (i:=1) HG7.out;have z2:=Qb (i:=2) HG7.out;clear hrd7 hsl7 hb)))
  all_goals (
   go_wp2_with fail
   obtain⟨r0,r1,r2,q1,q2,q3⟩:=QS (N:=w6.heap.size) HG7.out (HBB.out.trans (hbr7.out.mono (by omega))) (by omega) (by omega) HR7.out HL7.out
   exact bodyPost_ret (v:=.tuple #[.agg #[.slice Ar7 (Tr.mk [] []).es.length nr7,.slice Br7 (Tr.mk [] []).ks.length mr7,.slice Dr7 (appC t ⟨path,act,s,n⟩ d).length kr7],.int .i64 0]) (by simp[results,Tryz.results62,go_sem,r0,r1,r2]<;>rfl) rfl ⟨_,_,_,by rw[HAE.out],by rw[HAT.out];exact q1,q2,q3⟩)
 rintro e w5 ⟨rfl,hb5⟩
 have HBN2:=hid (HBN.out.trans (hb5.mono (by have:=HBN.out.size;simpa using this)))
 have HAT:Hid (appT t ⟨path,act,s,n⟩ d=pathT (endP ⟨path,act,s,n⟩) (entE ⟨path,act,s,n⟩ d)):=by unfold Hid appT;rw[if_pos ⟨HAE.out,he⟩]
 clear hB rt rp c0 c1 p4 p5 p6 p7 d0 d1 g3 hb5 he HBN
 have HBN:=HBN2
 clear HBN2
 obtain⟨q,HQ⟩:∃ q,Hid (endP ⟨path,act,s,n⟩=q):=⟨_,rfl⟩
 rw[HQ.out]at HAT hel
 obtain⟨es,HES⟩:∃ es,Hid ((entE ⟨path,act,s,n⟩ d).s=es):=⟨_,rfl⟩
 have HEN:Hid (entE ⟨path,act,s,n⟩ d=⟨d.dc,d.n,es,n⟩):=by unfold Hid;rw[←HES.out];rfl
 have HBT:Hid (QC [(q,⟨d.dc,d.n,es,n⟩)]=appT t ⟨path,act,s,n⟩ d):=by unfold Hid;rw[HAT.out,HEN.out];exact qZ4 (by rw[←HQ.out];exact HKY.out.2.1)
 have HEO:Hid ((⟨d.dc,d.n,es,n⟩:En).Ok):=by
  refine⟨hd.dc,hd.n,on,?_⟩
  show es.size<=Big
  rw[←HES.out];unfold entE;simp only;split
  ·exact os
  ·decide
 have hs5:=HBN.out.size
 simp only[World.size_alloc]at hs5
 obtain⟨hB,rt,rp,c0,c1,p4,p5,p6,p7,d0,d1,g3⟩:=HX.out _ HBN.out
 have HRT:=hid rt
 have HRP:=hid rp
 have HBB:=hid hB
 have HY:Hid (∀ W,Below w5.heap.size w5 W->(t.rd W W.heap.size (.slice A3 t.es.length n3) (.slice A4 t.ks.length n4)/\SlP W W.heap.size 1 StE (.slice A5 path.length n5) path)):=fun W hW=>⟨Qi hW hW.size _ _ _ HRT.out,HRP.out.imp hW hW.size fun _ _ _ h=>h⟩
 clear rt rp hB g3
 have HZ0:Hid (Below w5.heap.size w5 (w5.alloc (.cells #[.int .i64 d.dc,.int .i64 d.n,.string ⟨#[]⟩,.int .i64 n] 80))):=hid ((Below.refl _ w5).alloc (Nat.le_refl _) _)
 have HZ1:Hid ((w5.alloc (.cells #[.int .i64 d.dc,.int .i64 d.n,.string ⟨#[]⟩,.int .i64 n] 80)).heap[w5.heap.size]?=some (.cells #[.int .i64 d.dc,.int .i64 d.n,.string ⟨#[]⟩,.int .i64 n] 80 (0,0))):=hid (Qd rfl)
 have z9:=Qb (i:=2) HZ1.out
 obtain⟨_,_,_,_,_,_,xa1,xa2,_⟩:=HX.out _ (HBN.out.trans (HZ0.out.mono (by omega)))
 by_cases ha:act=6
 ·have hes:es=s:=by rw[←HES.out];unfold entE;simp[ha]
  have ha6:(act==6)=true:=by simpa using ha
  clear ha
  go_wp2_with fail
  obtain⟨wz,hwz⟩:∃ z:World,z=(w5.alloc (.cells #[.int .i64 d.dc,.int .i64 d.n,.string s,.int .i64 n] 80)):=⟨_,rfl⟩
  have HVZ:Hid (Below w5.heap.size w5 wz):=by rw[hwz];exact hid ((Below.refl _ w5).alloc (Nat.le_refl _) _)
  have HEZ:Hid (wz.heap[w5.heap.size]?=some (.cells #[.int .i64 d.dc,.int .i64 d.n,.string es,.int .i64 n] 80 (0,0))):=by rw[hwz,hes];exact hid (Qd rfl)
  rw[←hwz]
  have hzs:w5.heap.size+1<=wz.heap.size:=by have:=lt_of_block HEZ.out;omega
  clear hes hwz HZ0 HZ1 z9 xa1 xa2 c0 c1 p4 p5 p6 p7 d0 d1
  have hn0:¬(w.heap.size=w.heap.size+1+1+1):=by omega
  have hn1:¬(w.heap.size+1+1+1=w.heap.size):=by omega
  have hn2:¬(w.heap.size+1=w.heap.size+1+1+1):=by omega
  have hn3:¬(w.heap.size=w.heap.size+1+1):=by omega
  have hn4:¬(w.heap.size+1+1=w.heap.size):=by omega
  have hn5:¬(w.heap.size+1+1+1=w5.heap.size):=by omega
  have hn6:¬(w5.heap.size=w.heap.size+1+1+1):=by omega
  have hsz:=HVZ.out.size
  have HKK:Hid (∀ W,Below wz.heap.size wz W->(W.cell? ⟨w.heap.size,0,none⟩=some (.slice A3 t.es.length n3)/\W.cell? ⟨w.heap.size,1,none⟩=some (.slice A4 t.ks.length n4)/\W.cell? ⟨w.heap.size+1,0,none⟩=some (.slice A5 path.length n5)/\W.cell? ⟨w.heap.size+1,1,none⟩=some (.int .i64 act)/\W.cell? ⟨w.heap.size+1,2,none⟩=some (.string s)/\W.cell? ⟨w.heap.size+1,3,none⟩=some (.int .i64 n)/\W.cell? ⟨w5.heap.size,0,none⟩=some (.int .i64 d.dc)/\W.cell? ⟨w5.heap.size,1,none⟩=some (.int .i64 d.n)/\W.cell? ⟨w5.heap.size,2,none⟩=some (.string es)/\W.cell? ⟨w5.heap.size,3,none⟩=some (.int .i64 n))):=fun W hW=>by
   obtain⟨_,_,_,a0,a1,a2,a3,a4,a5,_⟩:=HX.out W (HBN.out.trans ((HVZ.out.trans (hW.mono hsz)).mono (by omega)))
   have g:=(hW.block w5.heap.size (by omega)).trans HEZ.out
   exact⟨a0,a1,a2,a3,a4,a5,Qa (i:=0) g,Qa (i:=1) g,Qa (i:=2) g,Qa (i:=3) g⟩
  have HGZ:Hid (∀ W,Below wz.heap.size wz W->W.heap[w.heap.size+3]?=some (.cells #[.slice none 0 0,.slice none 0 0,.slice none 0 0] 29 (0,0))):=fun W hW=>(HX.out W (HBN.out.trans ((HVZ.out.trans (hW.mono hsz)).mono (by omega)))).2.2.2.2.2.2.2.2.2.2.2
  have HYZ:Hid (∀ W,Below wz.heap.size wz W->(t.rd W W.heap.size (.slice A3 t.es.length n3) (.slice A4 t.ks.length n4)/\SlP W W.heap.size 1 StE (.slice A5 path.length n5) path)):=fun W hW=>HY.out W (HVZ.out.trans (hW.mono hsz))
  obtain⟨b0,b1,b2,b3,b4,b5,b6,b7,b8,b9⟩:=HKK.out _ (Below.refl _ _)
  go_upto_region 15 with (fail)
  go_region_held3 (fun W=>W.cell? ⟨w.heap.size,0,none⟩=some (.slice A3 t.es.length n3)/\W.cell? ⟨w.heap.size,1,none⟩=some (.slice A4 t.ks.length n4)/\W.cell? ⟨w.heap.size+1,0,none⟩=some (.slice A5 path.length n5)/\W.cell? ⟨w.heap.size+1,1,none⟩=some (.int .i64 act)/\W.cell? ⟨w.heap.size+1,2,none⟩=some (.string s)/\W.cell? ⟨w.heap.size+1,3,none⟩=some (.int .i64 n)/\W.cell? ⟨w5.heap.size,0,none⟩=some (.int .i64 d.dc)/\W.cell? ⟨w5.heap.size,1,none⟩=some (.int .i64 d.n)/\W.cell? ⟨w5.heap.size,2,none⟩=some (.string es)/\W.cell? ⟨w5.heap.size,3,none⟩=some (.int .i64 n))
   (first|with_reducible exact HKK.out _ hbr8.out|with_reducible exact HKK.out _ hbr7.out|with_reducible exact HKK.out _ hbr6.out|go_keep|exact HKK.out _ (by go_grown)|fail)
   (first
    |(go_at_call 108;go_loud ((refine (Kz ⟨path,act,s,n⟩ _ _ (HYZ.out _ (by go_grown)).2 HO.out hl).mono ?_);rw[HQ.out];rintro e w6 ⟨v6,rfl,ho6,hb⟩;obtain⟨A6,c6,hv6⟩:=ho6.shape;subst hv6;have hbr6:Hid (Below wz.heap.size wz w6):=hid (Below.trans (by go_grown) (hb.mono (by first|omega|(simp;done)|(simp;omega))));have hsr6:=hbr6.out.size;have HS6:=hid (ho6.sl (by unfold Big;omega));clear ho6 hb))
    |(go_at_call 106;go_loud ((refine (Jo t ⟨path,act,s,n⟩ _ _ _ w6 (HYZ.out _ hbr6.out).1 (HYZ.out _ hbr6.out).2 HO.out HT.out hl (by omega)).mono ?_);rw[HCE.out];rintro e w7 ⟨v7,rfl,ho7,hb⟩;obtain⟨A7,c7,hv7⟩:=ho7.shape;subst hv7;have hbr7:Hid (Below wz.heap.size wz w7):=hid (hbr6.out.trans (hb.mono (by omega)));have hsr7:=hbr7.out.size;have HS7:=hid (ho7.sl (by unfold Big;omega));have HS67:Hid (SlP w7 w7.heap.size 1 StE (.slice A6 q.length c6) q):=hid (HS6.out.imp hb hb.size fun _ _ _ h=>h);clear ho7 hb))
    |(go_at_call 107;go_loud ((refine (KQ q ⟨d.dc,d.n,es,n⟩ C _ _ w7 HEO.out HS67.out HS7.out (by omega) HSO.out HSD.out).mono ?_);rw[HPE.out,HBT.out];rintro e w8 ⟨ve8,vk8,vc8,rfl,hrd8,hsl8,hb⟩;obtain⟨Ar8,nr8,Br8,mr8,hv1,hv2⟩:=Ql hrd8;subst hv1;subst hv2;obtain⟨Dr8,kr8,hv3⟩:=hsl8.shape;subst hv3;have hbr8:Hid (Below wz.heap.size wz w8):=hid (hbr7.out.trans (hb.mono (by omega)));have hsr8:=hbr8.out.size;have HR8:=hid hrd8;have HL8:=hid hsl8;have HG8:=hid (HGZ.out _ hbr8.out);have k0:=Qa (i:=0) HG8.out;have k1:=Qa (i:=1) HG8.out;have k2:=Qa (i:=2) HG8.out;simp only[List.getElem?_toArray,List.getElem?_cons_zero,List.getElem?_cons_succ]at k0 k1 k2;have z0:=Qb (i:=0) HG8.out;have z1:=Qb (i:=1) HG8.out;have z2:=Qb (i:=2) HG8.out;clear hrd8 hsl8 hb)))
  all_goals (
   go_wp2_with fail
   obtain⟨r0,r1,r2,q1,q2,q3⟩:=QS (N:=w7.heap.size) HG8.out (HBB.out.trans ((HVZ.out.trans (hbr8.out.mono (by omega))).mono (by omega))) (by omega) (by omega) HR8.out HL8.out
   exact bodyPost_ret (v:=.tuple #[.agg #[.slice Ar8 (appT t ⟨path,act,s,n⟩ d).es.length nr8,.slice Br8 (appT t ⟨path,act,s,n⟩ d).ks.length mr8,.slice Dr8 (appC t ⟨path,act,s,n⟩ d).length kr8],.int .i64 0]) (by simp[results,Tryz.results62,go_sem,r0,r1,r2]<;>rfl) rfl ⟨_,_,_,by rw[HAE.out],q1,q2,q3⟩)
 ·have hes:es=ByteArray.empty:=by rw[←HES.out];unfold entE;simp[ha]
  have ha6:(act==6)=false:=by simpa using ha
  clear ha
  go_wp2_with fail
  obtain⟨wz,hwz⟩:∃ z:World,z=(w5.alloc (.cells #[.int .i64 d.dc,.int .i64 d.n,.string ⟨#[]⟩,.int .i64 n] 80)):=⟨_,rfl⟩
  have HVZ:Hid (Below w5.heap.size w5 wz):=by rw[hwz];exact HZ0
  have HEZ:Hid (wz.heap[w5.heap.size]?=some (.cells #[.int .i64 d.dc,.int .i64 d.n,.string es,.int .i64 n] 80 (0,0))):=by rw[hwz,hes];exact HZ1
  rw[←hwz]
  have hzs:w5.heap.size+1<=wz.heap.size:=by have:=lt_of_block HEZ.out;omega
  clear hes hwz HZ0 HZ1 z9 xa1 xa2 c0 c1 p4 p5 p6 p7 d0 d1
  have hn0:¬(w.heap.size=w.heap.size+1+1+1):=by omega
  have hn1:¬(w.heap.size+1+1+1=w.heap.size):=by omega
  have hn2:¬(w.heap.size+1=w.heap.size+1+1+1):=by omega
  have hn3:¬(w.heap.size=w.heap.size+1+1):=by omega
  have hn4:¬(w.heap.size+1+1=w.heap.size):=by omega
  have hn5:¬(w.heap.size+1+1+1=w5.heap.size):=by omega
  have hn6:¬(w5.heap.size=w.heap.size+1+1+1):=by omega
  have hsz:=HVZ.out.size
  have HKK:Hid (∀ W,Below wz.heap.size wz W->(W.cell? ⟨w.heap.size,0,none⟩=some (.slice A3 t.es.length n3)/\W.cell? ⟨w.heap.size,1,none⟩=some (.slice A4 t.ks.length n4)/\W.cell? ⟨w.heap.size+1,0,none⟩=some (.slice A5 path.length n5)/\W.cell? ⟨w.heap.size+1,1,none⟩=some (.int .i64 act)/\W.cell? ⟨w.heap.size+1,2,none⟩=some (.string s)/\W.cell? ⟨w.heap.size+1,3,none⟩=some (.int .i64 n)/\W.cell? ⟨w5.heap.size,0,none⟩=some (.int .i64 d.dc)/\W.cell? ⟨w5.heap.size,1,none⟩=some (.int .i64 d.n)/\W.cell? ⟨w5.heap.size,2,none⟩=some (.string es)/\W.cell? ⟨w5.heap.size,3,none⟩=some (.int .i64 n))):=fun W hW=>by
   obtain⟨_,_,_,a0,a1,a2,a3,a4,a5,_⟩:=HX.out W (HBN.out.trans ((HVZ.out.trans (hW.mono hsz)).mono (by omega)))
   have g:=(hW.block w5.heap.size (by omega)).trans HEZ.out
   exact⟨a0,a1,a2,a3,a4,a5,Qa (i:=0) g,Qa (i:=1) g,Qa (i:=2) g,Qa (i:=3) g⟩
  have HGZ:Hid (∀ W,Below wz.heap.size wz W->W.heap[w.heap.size+3]?=some (.cells #[.slice none 0 0,.slice none 0 0,.slice none 0 0] 29 (0,0))):=fun W hW=>(HX.out W (HBN.out.trans ((HVZ.out.trans (hW.mono hsz)).mono (by omega)))).2.2.2.2.2.2.2.2.2.2.2
  have HYZ:Hid (∀ W,Below wz.heap.size wz W->(t.rd W W.heap.size (.slice A3 t.es.length n3) (.slice A4 t.ks.length n4)/\SlP W W.heap.size 1 StE (.slice A5 path.length n5) path)):=fun W hW=>HY.out W (HVZ.out.trans (hW.mono hsz))
  obtain⟨b0,b1,b2,b3,b4,b5,b6,b7,b8,b9⟩:=HKK.out _ (Below.refl _ _)
  go_upto_region 15 with (fail)
  go_region_held3 (fun W=>W.cell? ⟨w.heap.size,0,none⟩=some (.slice A3 t.es.length n3)/\W.cell? ⟨w.heap.size,1,none⟩=some (.slice A4 t.ks.length n4)/\W.cell? ⟨w.heap.size+1,0,none⟩=some (.slice A5 path.length n5)/\W.cell? ⟨w.heap.size+1,1,none⟩=some (.int .i64 act)/\W.cell? ⟨w.heap.size+1,2,none⟩=some (.string s)/\W.cell? ⟨w.heap.size+1,3,none⟩=some (.int .i64 n)/\W.cell? ⟨w5.heap.size,0,none⟩=some (.int .i64 d.dc)/\W.cell? ⟨w5.heap.size,1,none⟩=some (.int .i64 d.n)/\W.cell? ⟨w5.heap.size,2,none⟩=some (.string es)/\W.cell? ⟨w5.heap.size,3,none⟩=some (.int .i64 n))
   (first|with_reducible exact HKK.out _ hbr8.out|with_reducible exact HKK.out _ hbr7.out|with_reducible exact HKK.out _ hbr6.out|go_keep|exact HKK.out _ (by go_grown)|fail)
   (first
    |(go_at_call 108;go_loud ((refine (Kz ⟨path,act,s,n⟩ _ _ (HYZ.out _ (by go_grown)).2 HO.out hl).mono ?_);rw[HQ.out];rintro e w6 ⟨v6,rfl,ho6,hb⟩;obtain⟨A6,c6,hv6⟩:=ho6.shape;subst hv6;have hbr6:Hid (Below wz.heap.size wz w6):=hid (Below.trans (by go_grown) (hb.mono (by first|omega|(simp;done)|(simp;omega))));have hsr6:=hbr6.out.size;have HS6:=hid (ho6.sl (by unfold Big;omega));clear ho6 hb))
    |(go_at_call 106;go_loud ((refine (Jo t ⟨path,act,s,n⟩ _ _ _ w6 (HYZ.out _ hbr6.out).1 (HYZ.out _ hbr6.out).2 HO.out HT.out hl (by omega)).mono ?_);rw[HCE.out];rintro e w7 ⟨v7,rfl,ho7,hb⟩;obtain⟨A7,c7,hv7⟩:=ho7.shape;subst hv7;have hbr7:Hid (Below wz.heap.size wz w7):=hid (hbr6.out.trans (hb.mono (by omega)));have hsr7:=hbr7.out.size;have HS7:=hid (ho7.sl (by unfold Big;omega));have HS67:Hid (SlP w7 w7.heap.size 1 StE (.slice A6 q.length c6) q):=hid (HS6.out.imp hb hb.size fun _ _ _ h=>h);clear ho7 hb))
    |(go_at_call 107;go_loud ((refine (KQ q ⟨d.dc,d.n,es,n⟩ C _ _ w7 HEO.out HS67.out HS7.out (by omega) HSO.out HSD.out).mono ?_);rw[HPE.out,HBT.out];rintro e w8 ⟨ve8,vk8,vc8,rfl,hrd8,hsl8,hb⟩;obtain⟨Ar8,nr8,Br8,mr8,hv1,hv2⟩:=Ql hrd8;subst hv1;subst hv2;obtain⟨Dr8,kr8,hv3⟩:=hsl8.shape;subst hv3;have hbr8:Hid (Below wz.heap.size wz w8):=hid (hbr7.out.trans (hb.mono (by omega)));have hsr8:=hbr8.out.size;have HR8:=hid hrd8;have HL8:=hid hsl8;have HG8:=hid (HGZ.out _ hbr8.out);have k0:=Qa (i:=0) HG8.out;have k1:=Qa (i:=1) HG8.out;have k2:=Qa (i:=2) HG8.out;simp only[List.getElem?_toArray,List.getElem?_cons_zero,List.getElem?_cons_succ]at k0 k1 k2;have z0:=Qb (i:=0) HG8.out;have z1:=Qb (i:=1) HG8.out;have z2:=Qb (i:=2) HG8.out;clear hrd8 hsl8 hb)))
  all_goals (
   go_wp2_with fail
   obtain⟨r0,r1,r2,q1,q2,q3⟩:=QS (N:=w7.heap.size) HG8.out (HBB.out.trans ((HVZ.out.trans (hbr8.out.mono (by omega))).mono (by omega))) (by omega) (by omega) HR8.out HL8.out
   exact bodyPost_ret (v:=.tuple #[.agg #[.slice Ar8 (appT t ⟨path,act,s,n⟩ d).es.length nr8,.slice Br8 (appT t ⟨path,act,s,n⟩ d).ks.length mr8,.slice Dr8 (appC t ⟨path,act,s,n⟩ d).length kr8],.int .i64 0]) (by simp[results,Tryz.results62,go_sem,r0,r1,r2]<;>rfl) rfl ⟨_,_,_,by rw[HAE.out],q1,q2,q3⟩)
end Go.Proofs.YtbcoelggdikipaaGreat
