/- What the laws need. No condition but those that each lemma states. -/
import Derived.Test.YtbcoelggdikipaaGreatUw12
import Derived.Test.YtbcoelggdikipaaGreatUw15
import Derived.Test.YtbcoelggdikipaaGreatUw13
import Derived.Test.YtbcoelggdikipaaGreatUw14
import Derived.Test.YtbcoelggdikipaaGreatUw5
import Derived.Test.YtbcoelggdikipaaGreatUw3
set_option maxRecDepth 100000
set_option maxHeartbeats 8000000
set_option linter.unusedSimpArgs false
namespace Go.Proofs.YtbcoelggdikipaaGreat
open Go.RowKit
def RDoR (w:World)(B:Nat)(N:Kn)(ops:List Opr)(o:Opr)(ge gk gc vo ne nk nc:Value)(e:Ending)(w':World):Prop:=
 ((doI N ops.length o≠0/\e=.returned (.tuple #[.agg #[ge,gk,gc,vo,ne,nk,nc],.int .i64 (doI N ops.length o)])) ∨
  (doI N ops.length o=0/\∃ vo' ne' nk' nc',e=.returned (.tuple #[.agg #[ge,gk,gc,vo',ne',nk',nc'],.int .i64 0])/\(aftK N o (txD ops.length)).1.rda w' (fun b=>w.heap.size<=b/\b<w'.heap.size) ne' nk'/\SlA w' (fun b=>w.heap.size<=b/\b<w'.heap.size) 3 SpE nc' (aftK N o (txD ops.length)).2/\OwnD w' w.heap.size 65 4 OpA (fun b=>b<B) vo' (ops++[o])))/\Below w.heap.size w w'
theorem zX7 {w W:World}{vo:Value}{A:Option Addr}{n r B:Nat}{o:Opr}(hs:SlP w B 1 StE (.slice A o.path.length n) o.path)(hB:B<=w.heap.size)(hb:Below w.heap.size w W)(ho:o.Ok)(hr:W.heap[r]?=some (.cells #[.slice A o.path.length n,.int .i64 o.act,.string o.s,.int .i64 o.n] 65 (0,0)))(hv:∀ b,b<B->vo.ownBlock≠some b) :
  SlP W W.heap.size 4 (OpA W (fun b=>b<B/\b<W.heap.size/\vo.ownBlock≠some b)) (.slice (some ⟨r,0,none⟩) 1 1) [o]:=by
 have hsz:=hb.size
 refine⟨_,1,rfl,Nat.le_refl _,by simp[Big],fun _=>⟨r,0,rfl,lt_of_block hr,fun j y hy=>?_⟩⟩
 match j,hy with
 |0,hy=>
  simp at hy;subst hy
  exact⟨_,⟨_,_,rfl,(Z8.1 hs).up (fun b hb'=>hb.block b (Nat.lt_of_lt_of_le hb' hB)) (fun b hb'=>⟨hb',Nat.lt_of_lt_of_le hb' (Nat.le_trans hB hsz),hv b hb'⟩) (fun _ _ _ h=>h),ho⟩,rfl,fun i u hi=>by rw[Qa hr];simpa using hi⟩
theorem qUl {w W:World}{vo v:Value}{l:List Opr}{base B:Nat}(h:OwnD w base 65 4 OpA (fun b=>b<B) vo l)(hl:l.length<=Big)(hb:Below w.heap.size w W)(hv:∀ b,b<B->v.ownBlock≠some b):SlP W W.heap.size 4 (OpA W (fun b=>b<B/\b<W.heap.size/\v.ownBlock≠some b)) vo l:=
 (OwnD.sl (OwnD.grow h OpA.mon hb) OpA.mon hl).imp (Below.refl _ _) (Nat.le_refl _) fun _ _ _ hx=>OpA.mon.up (fun _ _=>rfl) (fun b hb'=>⟨hb'.1,hb'.2,hv b hb'.1⟩) hx
theorem zZc {w7 W:World}{g base base':Nat}{okp:Nat->Prop}{v:Value}{l:List Opr}(h:OwnD w7 base 65 4 OpA okp v l)(hk:∀ k,k≠g->W.heap[k]?=w7.heap[k]?)(hs:W.heap.size=w7.heap.size)(hg:g<base)(ho:∀ b,okp b->b≠g)(hB:base'<=base):OwnD W base' 65 4 OpA okp v l:=by
 have h1:=OwnP.keep (w':=W) h fun q hq=>hk q (by have:=(OwnD.lt h q hq).1;omega)
 have h2:OwnD W base 65 4 OpA okp v l:=h1.imp fun x _ cs hx=>OpA.mon.up (fun b hb=>hk b (ho b hb.1)) (fun b hb=>⟨hb.1,by rw[hs];exact hb.2.1,hb.2.2⟩) hx
 exact h2.mono hB
theorem qXc {P:Program}{f:Func}{Q:Ending->World->Prop}{a:Act}{W:World}(r:World->Prop)(hr:r W)(h:∀ W',r W'->bodyPost P f Q Exit.ret a W'):bodyPost P f Q Exit.ret a W:=h W hr
theorem qUm {N:Kn}{ops:List Opr}(o:Opr)(ge gk gc vo ne nk nc vp:Value)(lg1 lg2 lg3:Nat)(Ag Bg Cg:Option Addr)(ng mg kg:Nat)(eg:ge=.slice Ag lg1 ng)(eg2:gk=.slice Bg lg2 mg)(eg3:gc=.slice Cg lg3 kg)(w:World)(hn:N.1.rd w w.heap.size ne nk)(hc:SlP w w.heap.size 3 SpE nc N.2){base B:Nat}(hops:OwnD w base 65 4 OpA (fun b=>b<B) vo ops)(hBw:B<=w.heap.size)(hN:KOk N)(z1:N.1.sz<=200)(z2:N.2.length<=9000)(hl:ops.length<=12)
  (hp:SlP w B 1 StE vp o.path) (ho:o.Ok) (hpl:o.path.length<=1000) :
  Calls Tryz.prog 30 #[.agg #[ge,gk,gc,vo,ne,nk,nc],.agg #[vp,.int .i64 o.act,.string o.s,.int .i64 o.n]] w (RDoR w B N ops o ge gk gc vo ne nk nc):=by
 subst eg;subst eg2;subst eg3
 obtain⟨A5,c5,hvp,_⟩:=id hp
 subst hvp
 obtain⟨path,act,s,nn⟩:=o
 simp only at hp ho hpl ⊢
 obtain⟨An,nn1,Bn,mn,e1,e2⟩:=Qj hn
 obtain⟨Cn,kn,e3,_⟩:=id hc
 obtain⟨Ao,no,e4⟩:=OwnP.shape hops
 subst e1;subst e2;subst e3;subst e4
 have HN:=hid hN
 have HO:=hid ho
 have HRW:Hid (∀ W,Below w.heap.size w W->(N.1.rd W W.heap.size (.slice An N.1.es.length nn1) (.slice Bn N.1.ks.length mn)/\SlP W W.heap.size 3 SpE (.slice Cn N.2.length kn) N.2/\SlP W W.heap.size 1 StE (.slice A5 path.length c5) path)):=fun W hW=>⟨Qi hW hW.size _ _ _ hn,hc.imp hW hW.size fun _ _ _ h=>h,(hp.imp (Below.refl _ _) hBw fun _ _ _ h=>h).imp hW hW.size fun _ _ _ h=>h⟩
 have HOPS:=hid hops
 have HP:=hid hp
 have hb0:Below w.heap.size w (((w.alloc (.cells #[.slice Ag lg1 ng,.slice Bg lg2 mg,.slice Cg lg3 kg,.slice Ao ops.length no,.slice An N.1.es.length nn1,.slice Bn N.1.ks.length mn,.slice Cn N.2.length kn] 51)).alloc (.cells #[.slice A5 path.length c5,.int .i64 act,.string s,.int .i64 nn] 65)).alloc (.cells #[.slice none 0 0,.slice none 0 0,.slice none 0 0,.slice none 0 0,.slice none 0 0,.slice none 0 0,.slice none 0 0] 51)):=(((Below.refl _ w).alloc (Nat.le_refl _) _).alloc (by simp) _).alloc (by simp;omega) _
 have HB0:=hid hb0
 have HX:Hid (∀ W,Below (w.heap.size+3) (((w.alloc (.cells #[.slice Ag lg1 ng,.slice Bg lg2 mg,.slice Cg lg3 kg,.slice Ao ops.length no,.slice An N.1.es.length nn1,.slice Bn N.1.ks.length mn,.slice Cn N.2.length kn] 51)).alloc (.cells #[.slice A5 path.length c5,.int .i64 act,.string s,.int .i64 nn] 65)).alloc (.cells #[.slice none 0 0,.slice none 0 0,.slice none 0 0,.slice none 0 0,.slice none 0 0,.slice none 0 0,.slice none 0 0] 51)) W->(Below w.heap.size w W/\w.heap.size+3<=W.heap.size/\W.heap[w.heap.size+2]?=some (.cells #[.slice none 0 0,.slice none 0 0,.slice none 0 0,.slice none 0 0,.slice none 0 0,.slice none 0 0,.slice none 0 0] 51 (0,0)) /\
   W.cell? ⟨w.heap.size,0,none⟩=some (.slice Ag lg1 ng)/\W.cell? ⟨w.heap.size,1,none⟩=some (.slice Bg lg2 mg)/\W.cell? ⟨w.heap.size,2,none⟩=some (.slice Cg lg3 kg)/\W.cell? ⟨w.heap.size,3,none⟩=some (.slice Ao ops.length no)/\W.cell? ⟨w.heap.size,4,none⟩=some (.slice An N.1.es.length nn1)/\W.cell? ⟨w.heap.size,5,none⟩=some (.slice Bn N.1.ks.length mn)/\W.cell? ⟨w.heap.size,6,none⟩=some (.slice Cn N.2.length kn) /\
   W.cell? ⟨w.heap.size+1,0,none⟩=some (.slice A5 path.length c5)/\W.cell? ⟨w.heap.size+1,1,none⟩=some (.int .i64 act)/\W.cell? ⟨w.heap.size+1,2,none⟩=some (.string s)/\W.cell? ⟨w.heap.size+1,3,none⟩=some (.int .i64 nn))):=fun W hW=>by
  have g0:W.heap[w.heap.size]?=some (.cells #[.slice Ag lg1 ng,.slice Bg lg2 mg,.slice Cg lg3 kg,.slice Ao ops.length no,.slice An N.1.es.length nn1,.slice Bn N.1.ks.length mn,.slice Cn N.2.length kn] 51 (0,0)):=(hW.block _ (by omega)).trans ((Qg (by simp<;>omega)).trans ((Qg (by simp)).trans (Qd rfl)))
  have g1:W.heap[w.heap.size+1]?=some (.cells #[.slice A5 path.length c5,.int .i64 act,.string s,.int .i64 nn] 65 (0,0)):=(hW.block _ (by omega)).trans ((Qg (by simp)).trans (Qd (by simp)))
  exact⟨HB0.out.trans (hW.mono (by omega)),by have:=hW.size;simpa using this,(hW.block _ (by omega)).trans (Qd (by simp)),Qa (i:=0) g0,Qa (i:=1) g0,Qa (i:=2) g0,Qa (i:=3) g0,Qa (i:=4) g0,Qa (i:=5) g0,Qa (i:=6) g0,Qa (i:=0) g1,Qa (i:=1) g1,Qa (i:=2) g1,Qa (i:=3) g1⟩
 have hneA:w.heap.size+2≠w.heap.size:=by omega
 have hneB:w.heap.size+2≠w.heap.size+1:=by omega
 clear hn hc hops hN hp ho hb0
 go_enter Tryz.func30,Tryz.ntmps30
 obtain⟨hB,hs3,hG,q0,q1,q2,q3,q4,q5,q6,y0,y1,y2,y3⟩:=HX.out _ (Below.refl _ _)
 by_cases hf:12<=ops.length
 ·have HD:Hid (doI N ops.length ⟨path,act,s,nn⟩=4):=hid (if_pos hf)
  have hfi:(12:Int)<=(ops.length:Int):=by omega
  have HG:=hid hG
  obtain⟨k0,k1,k2,k3,k4,k5,k6,z0,z1,z2,z3,z4,z5,z6⟩:=bz7 hG
  clear hG
  go_wp2_with fail
  refine qXc (fun W'=>(W'.heap[w.heap.size+1+1]?=some (.cells #[(.slice Ag lg1 ng),(.slice Bg lg2 mg),(.slice Cg lg3 kg),(.slice Ao ops.length no),(.slice An N.1.es.length nn1),(.slice Bn N.1.ks.length mn),(.slice Cn N.2.length kn)] 51 (0,0))/\Below w.heap.size w W')) ⟨(Qd (by simp)),((((Below.refl _ w).alloc (Nat.le_refl _) _).alloc (by simp) _).alloc (by simp;omega) _)⟩ ?_
  rintro Wz ⟨hz,hx⟩
  obtain⟨r0,r1,r2,r3,r4,r5,r6⟩:=bx7 hz
  refine bodyPost_ret (v:=.tuple #[.agg #[(.slice Ag lg1 ng),(.slice Bg lg2 mg),(.slice Cg lg3 kg),(.slice Ao ops.length no),(.slice An N.1.es.length nn1),(.slice Bn N.1.ks.length mn),(.slice Cn N.2.length kn)],.int .i64 4]) (by simp[results,Tryz.results30,go_sem,r0,r1,r2,r3,r4,r5,r6]<;>rfl) rfl ?_
  exact⟨.inl ⟨by rw[HD.out];decide,by rw[HD.out]⟩,hx⟩
 have hfi:¬((12:Int)<=(ops.length:Int)):=by omega
 obtain⟨P,hPe⟩:∃ P,P=appI N.1 ⟨path,act,s,nn⟩ (txD ops.length):=⟨_,rfl⟩
 obtain⟨PT,hPT⟩:∃ P,P=appT N.1 ⟨path,act,s,nn⟩ (txD ops.length):=⟨_,rfl⟩
 obtain⟨PC,hPC⟩:∃ P,P=appC N.1 ⟨path,act,s,nn⟩ (txD ops.length):=⟨_,rfl⟩
 have HPe:=hid hPe
 have HPT:=hid hPT
 have HPC:=hid hPC
 have HD:Hid (doI N ops.length ⟨path,act,s,nn⟩=P):=by unfold Hid doI;rw[if_neg hf,hPe]
 have HDO:Hid (Dt.Ok (txD ops.length)):=⟨by unfold txD I64;simp only;omega,by unfold txD I64;simp only;omega⟩
 have htd:txD ops.length=⟨0,1099511627765+(ops.length:Int)⟩:=rfl
 rw[htd]at HDO HPe HPT HPC
 have hwr:IntKind.i64.wrap (1099511627765+(ops.length:Int))=1099511627765+(ops.length:Int):=IntWalk.i64_in _ (by omega)
 clear hPe hPT hPC htd hG
 go_upto_region 3 with (fail)
 go_cut [6,7] (fun s6 s7 wx=>s7=.int .i64 P/\BoxG (w.heap.size+3) (((w.alloc (.cells #[.slice Ag lg1 ng,.slice Bg lg2 mg,.slice Cg lg3 kg,.slice Ao ops.length no,.slice An N.1.es.length nn1,.slice Bn N.1.ks.length mn,.slice Cn N.2.length kn] 51)).alloc (.cells #[.slice A5 path.length c5,.int .i64 act,.string s,.int .i64 nn] 65)).alloc (.cells #[.slice none 0 0,.slice none 0 0,.slice none 0 0,.slice none 0 0,.slice none 0 0,.slice none 0 0,.slice none 0 0] 51)) 29 PT PC s6 wx)
 case first=>
  go_wp2_with fail
  refine (qQ4 N.1 ⟨path,act,s,nn⟩ ⟨0,1099511627765+(ops.length:Int)⟩ _ _ _ _ (HRW.out _ HB0.out).1 (HRW.out _ HB0.out).2.2 HO.out HDO.out hpl (by omega)).mono ?_
  rw[←HPe.out,←HPT.out,←HPC.out]
  rintro e w3 ⟨xe3,xk3,xc3,rfl,hrd3,hsl3,hb3⟩
  obtain⟨A9,n9,B9,m9,hv1,hv2⟩:=Ql hrd3
  subst hv1;subst hv2
  obtain⟨C9,k9,hv3⟩:=hsl3.shape
  subst hv3
  have HB3:=hid (hb3.mono (show w.heap.size+3<=_ by simp))
  have HR9:=hid hrd3
  have HS9:=hid hsl3
  clear hb3 hrd3 hsl3 q0 q1 q2 q3 q4 q5 q6 y0 y1 y2 y3 hB hs3
  have hs33:=(HX.out _ HB3.out).2.1
  go_wp2_with fail
  go_meet
  case rel=>exact⟨rfl,JB HB3.out hs33 (by simp) HR9.out HS9.out⟩
 case rest=>
 obtain⟨rfl,q9,rfl,hq9,xe,xk,xc,hG9,hrd,hsl,hbz⟩:=hcut
 obtain⟨w4,hw4⟩:∃ z:World,z=wc:=⟨wc,rfl⟩
 subst hw4
 obtain⟨A8,n8,B8,m8,hv1,hv2⟩:=Ql hrd
 subst hv1;subst hv2
 obtain⟨C8,k8,hv3⟩:=hsl.shape
 subst hv3
 have HB4:=hid hbz
 have HR8:=hid hrd
 have HS8:=hid hsl
 have HG9:=hid hG9
 have hs9:=lt_of_block hG9
 have hs4:=hbz.size
 have hne9:q9≠w.heap.size:=by omega
 clear hrd hsl hbz q0 q1 q2 q3 q4 q5 q6 y0 y1 y2 y3 hB hs3
 obtain⟨hB4,hs44,hG4,q0,q1,q2,q3,q4,q5,q6,y0,y1,y2,y3⟩:=HX.out _ HB4.out
 have HG4:=hid hG4
 have HBW4:=hid hB4
 clear hG9 hB4
 by_cases hP:P=0
 case neg=>
  have hPn:(P != 0)=true:=by simpa using hP
  have HDP:=hid hP
  obtain⟨k0,k1,k2,k3,k4,k5,k6,z0,z1,z2,z3,z4,z5,z6⟩:=bz7 hG4
  clear hG4 hP
  go_wp2_with fail
  refine qXc (fun W'=>(W'.heap[w.heap.size+1+1]?=some (.cells #[(.slice Ag lg1 ng),(.slice Bg lg2 mg),(.slice Cg lg3 kg),(.slice Ao ops.length no),(.slice An N.1.es.length nn1),(.slice Bn N.1.ks.length mn),(.slice Cn N.2.length kn)] 51 (0,0))/\Below w.heap.size w W')) ⟨(box7 HG4.out _ _ _ _ _ _ _).1,((box7 HG4.out _ _ _ _ _ _ _).2.2.2 _ _ (by omega) HBW4.out)⟩ ?_
  rintro Wz ⟨hz,hx⟩
  obtain⟨r0,r1,r2,r3,r4,r5,r6⟩:=bx7 hz
  refine bodyPost_ret (v:=.tuple #[.agg #[(.slice Ag lg1 ng),(.slice Bg lg2 mg),(.slice Cg lg3 kg),(.slice Ao ops.length no),(.slice An N.1.es.length nn1),(.slice Bn N.1.ks.length mn),(.slice Cn N.2.length kn)],.int .i64 P]) (by simp[results,Tryz.results30,go_sem,r0,r1,r2,r3,r4,r5,r6]<;>rfl) rfl ?_
  exact⟨.inl ⟨by rw[HD.out];exact HDP.out,by rw[HD.out]⟩,hx⟩
 subst hP
 have HXA:Hid (aftK N ⟨path,act,s,nn⟩ (txD ops.length)=jn N (PT,PC)):=by unfold Hid aftK;rw[HPT.out,HPC.out];rfl
 have hPK:KOk (PT,PC):=by rw[HPT.out,HPC.out];exact (QT HPe.out.symm).1
 have hPTs:PT.sz<=5:=by rw[HPT.out];exact (QT HPe.out.symm).2
 have hPCs:PC.length<=4*(N.1.sz+2):=by rw[HPC.out];exact qZ6 HPe.out.symm
 have HSN:Hid (SpsOk N.2):=hid (Xd HN.out.ap)
 have HSP:Hid (SpsOk PC):=hid (Xd hPK.ap)
 obtain⟨⟨JT,JC⟩,HJJ⟩:∃ q,Hid (jn N (PT,PC)=q):=⟨_,rfl⟩
 have HJ2:Hid (QC (r9L (N.1.lvs []) (PT.lvs []) N.2 PC)=JT):=(r9_jn HN.out hPK).trans (congrArg Prod.fst HJJ.out)
 have HJ3:Hid (ctxBy N.2 PC 0=JC):=(show ctxBy N.2 PC 0=(jn N (PT,PC)).2 from rfl).trans (congrArg Prod.snd HJJ.out)
 have HL1:Hid (([]:List Opr).length+ops.length<=Few):=by unfold Hid Few;simp;omega
 have HL2:Hid (ops.length + [(⟨path,act,s,nn⟩:Opr)].length<=Few):=by unfold Hid Few;simp;omega
 have HS4:Hid (∀ W,Below w4.heap.size w4 W->((W.cell? ⟨w.heap.size,0,none⟩=some (.slice Ag lg1 ng)/\W.cell? ⟨w.heap.size,1,none⟩=some (.slice Bg lg2 mg)/\W.cell? ⟨w.heap.size,2,none⟩=some (.slice Cg lg3 kg)/\W.cell? ⟨w.heap.size,3,none⟩=some (.slice Ao ops.length no)/\W.cell? ⟨w.heap.size,4,none⟩=some (.slice An N.1.es.length nn1)/\W.cell? ⟨w.heap.size,5,none⟩=some (.slice Bn N.1.ks.length mn)/\W.cell? ⟨w.heap.size,6,none⟩=some (.slice Cn N.2.length kn) /\
   W.cell? ⟨w.heap.size+1,0,none⟩=some (.slice A5 path.length c5)/\W.cell? ⟨w.heap.size+1,1,none⟩=some (.int .i64 act)/\W.cell? ⟨w.heap.size+1,2,none⟩=some (.string s)/\W.cell? ⟨w.heap.size+1,3,none⟩=some (.int .i64 nn)/\W.cell? ⟨q9,0,none⟩=some (.slice A8 PT.es.length n8)/\W.cell? ⟨q9,1,none⟩=some (.slice B8 PT.ks.length m8)/\W.cell? ⟨q9,2,none⟩=some (.slice C8 PC.length k8)) /\
   (N.1.rd W W.heap.size (.slice An N.1.es.length nn1) (.slice Bn N.1.ks.length mn)/\SlP W W.heap.size 3 SpE (.slice Cn N.2.length kn) N.2/\PT.rd W W.heap.size (.slice A8 PT.es.length n8) (.slice B8 PT.ks.length m8)/\SlP W W.heap.size 3 SpE (.slice C8 PC.length k8) PC)/\Below w.heap.size w W)):=fun W hW=>by
  obtain⟨b1,b2,b3,q0,q1,q2,q3,q4,q5,q6,y0,y1,y2,y3⟩:=HX.out W (HB4.out.trans (hW.mono (by omega)))
  have g0:=(hW.block q9 hs9).trans HG9.out
  exact⟨⟨q0,q1,q2,q3,q4,q5,q6,y0,y1,y2,y3,Qa (i:=0) g0,Qa (i:=1) g0,Qa (i:=2) g0⟩,⟨(HRW.out _ b1).1,(HRW.out _ b1).2.1,Zx HR8.out (fun _ hb=>hb.2) hW,HS8.out.slp (fun _ hb=>hb.2) hW⟩,b1⟩
 have HKW:Hid (∀ W X:World,Below w4.heap.size w4 W->(∀ k,k≠w.heap.size+1+1->X.heap[k]?=W.heap[k]?)->(X.cell? ⟨w.heap.size,0,none⟩=some (.slice Ag lg1 ng)/\X.cell? ⟨w.heap.size,1,none⟩=some (.slice Bg lg2 mg)/\X.cell? ⟨w.heap.size,2,none⟩=some (.slice Cg lg3 kg)/\X.cell? ⟨w.heap.size,3,none⟩=some (.slice Ao ops.length no)/\X.cell? ⟨w.heap.size,4,none⟩=some (.slice An N.1.es.length nn1)/\X.cell? ⟨w.heap.size,5,none⟩=some (.slice Bn N.1.ks.length mn)/\X.cell? ⟨w.heap.size,6,none⟩=some (.slice Cn N.2.length kn)/\X.cell? ⟨w.heap.size+1,0,none⟩=some (.slice A5 path.length c5)/\X.cell? ⟨w.heap.size+1,1,none⟩=some (.int .i64 act)/\X.cell? ⟨w.heap.size+1,2,none⟩=some (.string s)/\X.cell? ⟨w.heap.size+1,3,none⟩=some (.int .i64 nn)/\X.cell? ⟨q9,0,none⟩=some (.slice A8 PT.es.length n8)/\X.cell? ⟨q9,1,none⟩=some (.slice B8 PT.ks.length m8)/\X.cell? ⟨q9,2,none⟩=some (.slice C8 PC.length k8))):=fun W X hW hk=>by
  obtain⟨q0,q1,q2,q3,q4,q5,q6,y0,y1,y2,y3,d0,d1,d2⟩:=(HS4.out W hW).1
  have e2:=hk w.heap.size (by omega)
  have e3:=hk (w.heap.size+1) (by omega)
  have e9:=hk q9 (by omega)
  exact⟨(World.cell?_of_block e2).trans q0,(World.cell?_of_block e2).trans q1,(World.cell?_of_block e2).trans q2,(World.cell?_of_block e2).trans q3,(World.cell?_of_block e2).trans q4,(World.cell?_of_block e2).trans q5,(World.cell?_of_block e2).trans q6,(World.cell?_of_block e3).trans y0,(World.cell?_of_block e3).trans y1,(World.cell?_of_block e3).trans y2,(World.cell?_of_block e3).trans y3,(World.cell?_of_block e9).trans d0,(World.cell?_of_block e9).trans d1,(World.cell?_of_block e9).trans d2⟩
 obtain⟨d0,d1,d2⟩:=bx3 HG9.out
 clear hG4
 go_upto_region 6 with (fail)
 go_region_held3 (fun W=>W.cell? ⟨w.heap.size,0,none⟩=some (.slice Ag lg1 ng)/\W.cell? ⟨w.heap.size,1,none⟩=some (.slice Bg lg2 mg)/\W.cell? ⟨w.heap.size,2,none⟩=some (.slice Cg lg3 kg)/\W.cell? ⟨w.heap.size,3,none⟩=some (.slice Ao ops.length no)/\W.cell? ⟨w.heap.size,4,none⟩=some (.slice An N.1.es.length nn1)/\W.cell? ⟨w.heap.size,5,none⟩=some (.slice Bn N.1.ks.length mn)/\W.cell? ⟨w.heap.size,6,none⟩=some (.slice Cn N.2.length kn) /\
   W.cell? ⟨w.heap.size+1,0,none⟩=some (.slice A5 path.length c5)/\W.cell? ⟨w.heap.size+1,1,none⟩=some (.int .i64 act)/\W.cell? ⟨w.heap.size+1,2,none⟩=some (.string s)/\W.cell? ⟨w.heap.size+1,3,none⟩=some (.int .i64 nn)/\W.cell? ⟨q9,0,none⟩=some (.slice A8 PT.es.length n8)/\W.cell? ⟨q9,1,none⟩=some (.slice B8 PT.ks.length m8)/\W.cell? ⟨q9,2,none⟩=some (.slice C8 PC.length k8))
  (first|with_reducible exact (HS4.out _ HB7.out).1|with_reducible exact HK7.out _ _ _ _ _ _ _|with_reducible exact (HS4.out _ HB6.out).1|exact (HS4.out _ (HB5.out.trans (by go_grown))).1|exact (HS4.out _ (by go_grown)).1|go_keep)
  (first
   |(refine YA rfl (.tmp 35) (.tmp 37) _ rfl OpA.mon eiOp (by decide) (by decide) rfl (HO5.out.grow OpA.mon (by go_grown)) rfl (zX7 (o:=⟨path,act,s,nn⟩) HP.out hBw (HS4.out _ (HB5.out.trans (by go_grown))).2.2 HO.out (by first|exact Qd rfl|exact (HG5.out.block _ (by first|(simp;done)|(simp;omega)) (by simp[Value.ownBlock])).trans (Qd (by simp))|exact (HG5.out.block _ (by first|(simp;done)|(simp;omega)) (by simp[Value.ownBlock])).trans ((Qg (by simp)).trans (Qd rfl))) (fun b hb e=>by have:=HO5.out.lt b e;omega)) HL2.out (by have:=HB5.out.size;first|omega|(simp;omega)) ?_;intro v6 w6 hown6 hb6 hg6 hv6;(have HO6:=hid hown6);(have HB6:Hid (Below w4.heap.size w4 w6):=hid ((HB5.out.trans (by go_grown)).trans hb6));(have hs6:=HB6.out.size);(have hsh6:=OwnP.shape hown6);simp only[List.length_append,List.length_singleton]at hsh6;obtain⟨A6,n6,hv6⟩:=hsh6;subst hv6;clear hown6 hb6 hg6 hv6)
   |((refine YA (v:=.slice (some ⟨w4.heap.size,0,none⟩) 0 0) rfl (.tmp 32) (.tmp 34) _ rfl OpA.mon eiOp (by decide) (by decide) rfl (base:=w4.heap.size) (okp:=fun b=>b<B) (xs:=[]) (OwnP.zero (by first|exact Qd rfl|exact Qd (by simp)|exact (Qg (by simp)).trans (Qd rfl)) (by first|exact Nat.le_refl _|(simp;done)|omega)) rfl (qUl HOPS.out (by unfold Big;omega) (HS4.out _ (by go_grown)).2.2 (fun b hb=>by intro e;simp[Value.ownBlock]at e;omega)) HL1.out (by first|omega|(simp;done)|(simp;omega)) ?_;intro v5 w5 hown5 hb5 hg5 hv5;simp only[List.nil_append]at hown5;(have HO5:=hid hown5);(have HG5:=hid hg5);(have HB5:Hid (Below w4.heap.size w4 w5):=hid (Below.trans (by go_grown) hb5));(have hs5:=HB5.out.size);obtain⟨A7,n7,hvv5⟩:=OwnP.shape hown5;subst hvv5;clear hown5 hb5 hg5 hv5))
   |((refine YA (v:=.slice (some ⟨w4.heap.size+1,0,none⟩) 0 0) rfl (.tmp 32) (.tmp 34) _ rfl OpA.mon eiOp (by decide) (by decide) rfl (base:=w4.heap.size) (okp:=fun b=>b<B) (xs:=[]) (OwnP.zero (by first|exact Qd rfl|exact Qd (by simp)|exact (Qg (by simp)).trans (Qd rfl)) (by first|exact Nat.le_refl _|(simp;done)|omega)) rfl (qUl HOPS.out (by unfold Big;omega) (HS4.out _ (by go_grown)).2.2 (fun b hb=>by intro e;simp[Value.ownBlock]at e;omega)) HL1.out (by first|omega|(simp;done)|(simp;omega)) ?_;intro v5 w5 hown5 hb5 hg5 hv5;simp only[List.nil_append]at hown5;(have HO5:=hid hown5);(have HG5:=hid hg5);(have HB5:Hid (Below w4.heap.size w4 w5):=hid (Below.trans (by go_grown) hb5));(have hs5:=HB5.out.size);obtain⟨A7,n7,hvv5⟩:=OwnP.shape hown5;subst hvv5;clear hown5 hb5 hg5 hv5))
   |(go_at_call 63;go_loud ((refine (qXb N.2 PC N.1 PT _ _ _ _ _ _ _ (HS4.out _ (HB6.out.trans (by go_grown))).2.1.1 (HS4.out _ (HB6.out.trans (by go_grown))).2.1.2.2.1 (HS4.out _ (HB6.out.trans (by go_grown))).2.1.2.1 (HS4.out _ (HB6.out.trans (by go_grown))).2.1.2.2.2 (by omega) (by omega) HSN.out HSP.out (by omega) (by omega)).mono ?_);rw[HJ2.out,HJ3.out];rintro e w7 ⟨xe7,xk7,xc7,rfl,hrd7,hsl7,hb7⟩;obtain⟨Ar7,nr7,Br7,mr7,hv1,hv2⟩:=Ql hrd7;subst hv1;subst hv2;obtain⟨Dr7,kr7,hv3⟩:=hsl7.shape;subst hv3;have HR7:=hid hrd7;have HL7:=hid hsl7;have HB7:Hid (Below w4.heap.size w4 w7):=hid ((HB6.out.trans (by go_grown)).trans (hb7.mono (by have:=HB6.out.size;first|omega|(simp;omega))));have HB67:Hid (Below w6.heap.size w6 w7):=hid (Below.trans (by go_grown) (hb7.mono (by first|omega|(simp;done)|(simp;omega))));have HG7:Hid (w7.heap[w.heap.size+1+1]?=some (.cells #[.slice none 0 0,.slice none 0 0,.slice none 0 0,.slice none 0 0,.slice none 0 0,.slice none 0 0,.slice none 0 0] 51 (0,0))):=hid ((HB7.out.block (w.heap.size+1+1) (by omega)).trans HG4.out);have HK7:=hid (fun (a b c d e f h:Value)=>HKW.out w7 (((((((((w7.setCell ⟨w.heap.size+1+1,0,none⟩ a).setCell ⟨w.heap.size+1+1,1,none⟩ b).setCell ⟨w.heap.size+1+1,2,none⟩ c).setCell ⟨w.heap.size+1+1,3,none⟩ d).setCell ⟨w.heap.size+1+1,4,none⟩ e).setCell ⟨w.heap.size+1+1,5,none⟩ f).setCell ⟨w.heap.size+1+1,6,none⟩ h))) HB7.out (box7 HG7.out a b c d e f h).2.1);have k0:w7.cell? ⟨w.heap.size+2,0,none⟩=some (.slice none 0 0):=Qa (i:=0) HG7.out;have k1:w7.cell? ⟨w.heap.size+2,1,none⟩=some (.slice none 0 0):=Qa (i:=1) HG7.out;have k2:w7.cell? ⟨w.heap.size+2,2,none⟩=some (.slice none 0 0):=Qa (i:=2) HG7.out;have k3:w7.cell? ⟨w.heap.size+2,3,none⟩=some (.slice none 0 0):=Qa (i:=3) HG7.out;have k4:w7.cell? ⟨w.heap.size+2,4,none⟩=some (.slice none 0 0):=Qa (i:=4) HG7.out;have k5:w7.cell? ⟨w.heap.size+2,5,none⟩=some (.slice none 0 0):=Qa (i:=5) HG7.out;have k6:w7.cell? ⟨w.heap.size+2,6,none⟩=some (.slice none 0 0):=Qa (i:=6) HG7.out;have z0:w7.frozen? ⟨w.heap.size+2,0,none⟩=false:=Qb (i:=0) HG7.out;have z1:w7.frozen? ⟨w.heap.size+2,1,none⟩=false:=Qb (i:=1) HG7.out;have z2:w7.frozen? ⟨w.heap.size+2,2,none⟩=false:=Qb (i:=2) HG7.out;have z3:w7.frozen? ⟨w.heap.size+2,3,none⟩=false:=Qb (i:=3) HG7.out;have z4:w7.frozen? ⟨w.heap.size+2,4,none⟩=false:=Qb (i:=4) HG7.out;have z5:w7.frozen? ⟨w.heap.size+2,5,none⟩=false:=Qb (i:=5) HG7.out;have z6:w7.frozen? ⟨w.heap.size+2,6,none⟩=false:=Qb (i:=6) HG7.out;clear hrd7 hsl7 hb7))
   |fail)
 all_goals
  have hs7:=HB7.out.size
  have hBX:=box7 HG7.out (.slice Ag lg1 ng) (.slice Bg lg2 mg) (.slice Cg lg3 kg) (.slice A6 (ops.length+1) n6) (.slice Ar7 JT.es.length nr7) (.slice Br7 JT.ks.length mr7) (.slice Dr7 JC.length kr7)
  have HBX:=hid hBX
  clear hBX k0 k1 k2 k3 k4 k5 k6 z0 z1 z2 z3 z4 z5 z6
  go_wp2_with fail
  refine qXc (fun W'=>(W'.heap[w.heap.size+1+1]?=some (.cells #[(.slice Ag lg1 ng),(.slice Bg lg2 mg),(.slice Cg lg3 kg),(.slice A6 (ops.length+1) n6),(.slice Ar7 JT.es.length nr7),(.slice Br7 JT.ks.length mr7),(.slice Dr7 JC.length kr7)] 51 (0,0))/\(JT.rda W' (fun b=>w.heap.size<=b/\b<W'.heap.size) (.slice Ar7 JT.es.length nr7) (.slice Br7 JT.ks.length mr7)/\SlA W' (fun b=>w.heap.size<=b/\b<W'.heap.size) 3 SpE (.slice Dr7 JC.length kr7) JC/\OwnD W' w.heap.size 65 4 OpA (fun b=>b<B) (.slice A6 (ops.length+1) n6) (ops++[⟨path,act,s,nn⟩])/\Below w.heap.size w W'))) ⟨HBX.out.1,⟨Qs (fun b hb=>HBX.out.2.1 b (by have:=hb.1;first|omega|(simp at this;omega))) (fun b hb=>⟨by have:=hb.1;first|omega|(simp at this;omega),(show b<_ by rw[HBX.out.2.2.1];exact hb.2)⟩) _ _ _ HR7.out,HL7.out.up (fun b hb=>HBX.out.2.1 b (by have:=hb.1;first|omega|(simp at this;omega))) (fun b hb=>⟨by have:=hb.1;first|omega|(simp at this;omega),(show b<_ by rw[HBX.out.2.2.1];exact hb.2)⟩) (fun _ _ _ h=>h),zZc (HO6.out.grow OpA.mon HB67.out) HBX.out.2.1 HBX.out.2.2.1 (by omega) (fun b hb=>by omega) (by omega),HBX.out.2.2.2 _ _ (by omega) (HS4.out _ HB7.out).2.2⟩⟩ ?_
  rintro Wz ⟨hz,hx⟩
  obtain⟨r0,r1,r2,r3,r4,r5,r6⟩:=bx7 hz
  refine bodyPost_ret (v:=.tuple #[.agg #[(.slice Ag lg1 ng),(.slice Bg lg2 mg),(.slice Cg lg3 kg),(.slice A6 (ops.length+1) n6),(.slice Ar7 JT.es.length nr7),(.slice Br7 JT.ks.length mr7),(.slice Dr7 JC.length kr7)],.int .i64 0]) (by simp[results,Tryz.results30,go_sem,r0,r1,r2,r3,r4,r5,r6]<;>rfl) rfl ?_
  exact⟨.inr ⟨HD.out,_,_,_,_,rfl,by rw[HXA.out,HJJ.out];exact hx.1,by rw[HXA.out,HJJ.out];exact hx.2.1,hx.2.2.1⟩,hx.2.2.2⟩
def txS (G:Kn)(l:List Opr):List Opr×Kn:=l.foldl (fun s o=>(doO s.2 s.1 o,doK s.2 s.1.length o)) ([],G)
theorem zZd (G:Kn)(l:List Opr)(o:Opr):txS G (l++[o])=(doO (txS G l).2 (txS G l).1 o,doK (txS G l).2 (txS G l).1.length o):=by unfold txS;rw[List.foldl_append];rfl
theorem zZe {G:Kn}{l:List Opr}{k:Nat}{o:Opr}(h:l[k]?=some o):txS G (l.take (k+1))=(doO (txS G (l.take k)).2 (txS G (l.take k)).1 o,doK (txS G (l.take k)).2 (txS G (l.take k)).1.length o):=by
 rw[List.take_add_one,h];exact zZd _ _ _
structure TxI (G:Kn)(s:List Opr×Kn):Prop where
 len:s.1.length<=12
 ok:okTx txD G s.1
 now:s.2=(chS txD G s.1).2.1
theorem TxI.step {G:Kn}{s:List Opr×Kn}(h:TxI G s)(o:Opr):TxI G (doO s.2 s.1 o,doK s.2 s.1.length o):=by
 obtain⟨ops,N⟩:=s
 obtain⟨h1,h2,h3⟩:=h
 simp only at h1 h2 h3 ⊢
 unfold doO doK
 split
 ·rename_i hz
  have hz2:=hz
  unfold doI at hz2
  split at hz2
  ·cases hz2
  ·rename_i hlt
   refine⟨by simp;omega,fun k o' ho'=>?_,?_⟩
   ·rcases Nat.lt_or_ge k ops.length with hk|hk
    ·rw[List.getElem?_append_left hk]at ho'
     rw[List.take_append_of_le_length (Nat.le_of_lt hk)]
     exact h2 k o' ho'
    ·rw[List.getElem?_append_right hk]at ho'
     have hk2:k=ops.length:=by
      have:=(List.getElem?_eq_some_iff.1 ho').1
      simp at this;omega
     subst hk2
     simp at ho'
     subst ho'
     rw[List.take_append_of_le_length (Nat.le_refl _),List.take_length,←h3]
     exact hz2
   ·simp only
    rw[qY3]
    show aftK N o (txD ops.length)=aftK _ o (txD _)
    rw[qW3,←h3]
 ·exact⟨h1,h2,h3⟩
theorem TxI.nil (G:Kn):TxI G ([],G):=⟨by simp,fun k o h=>by simp at h,rfl⟩
theorem qXd (G:Kn):∀ l:List Opr,TxI G (txS G l):=fun l=>by
 have:∀ (m:List Opr) (s:List Opr×Kn),TxI G s->TxI G (m.foldl (fun s o=>(doO s.2 s.1 o,doK s.2 s.1.length o)) s):=fun m=>by
  induction m with
  |nil=>intro s h;exact h
  |cons o m ih=>intro s h;rw[List.foldl_cons];exact ih _ (h.step o)
 exact this l _ (TxI.nil G)
theorem qUn (G:Kn):∀ l:List Opr,∀ o∈(txS G l).1,o∈l:=fun l=>by
 have:∀ (m:List Opr) (s:List Opr×Kn),∀ o∈(m.foldl (fun s o=>(doO s.2 s.1 o,doK s.2 s.1.length o)) s).1,o∈s.1∨o∈m:=fun m=>by
  induction m with
  |nil=>intro s o h;exact .inl h
  |cons a m ih=>
   intro s o h
   rw[List.foldl_cons]at h
   rcases ih _ o h with h|h
   ·simp only at h
    unfold doO at h
    split at h
    ·rcases List.mem_append.1 h with h|h
     ·exact .inl h
     ·simp at h;subst h;exact .inr (by simp)
    ·exact .inl h
   ·exact .inr (List.mem_cons_of_mem _ h)
 intro o h
 rcases this l ([],G) o h with h|h
 ·cases h
 ·exact h
theorem TxI.facts {G:Kn}{s:List Opr×Kn}(h:TxI G s)(hG:KOk G)(hz:G.1.sz<=40)(hl:G.2.length<=40):KOk s.2/\s.2.1.sz<=100/\s.2.2.length<=6040:=by
 have hc:=zZ4 hG (by omega) h.len h.ok s.1.length (Nat.le_refl _)
 rw[List.take_length]at hc
 have h0:=h.len
 have h1:=hc.now
 have h2:=hc.z1
 have h3:=hc.l1
 rw[←h.now]at h1 h2 h3
 exact⟨h1,by omega,by omega⟩
def okC (cl:Nat->Prop)(g q:Nat)(vo:Value)(b:Nat):Prop:=cl b/\b≠g/\b≠q/\vo.ownBlock≠some b
structure OwI (B g q:Nat)(G:Kn)(ge gk gc:Value)(sg sr:List Opr×Kn)(cl okp:Nat->Prop)(v:Nat->V3)(vo vr ne nk nc:Value)(wr:World):Prop where
 tx:TxB wr g okp v vo G sg.2 sg.1
 ok:∀ b,okp b->cl b/\b≠q
 gq:g≠q
 Bg:B<=g
 Bq:B<=q
 cg:cl g
 cq:cl q
 lo:∀ b,b<B->cl b
 hi:∀ b,cl b->b<wr.heap.size
 bx:wr.heap[q]?=some (.cells #[ge,gk,gc,vr,ne,nk,nc] 51 (0,0))
 rn:sr.2.1.rda wr (okC cl g q vo) ne nk
 rc:SlA wr (okC cl g q vo) 3 SpE nc sr.2.2
 ro:OwnD wr B 65 4 OpA (fun b=>b<B) vr sr.1
 rv:∀ b,vr.ownBlock=some b->okC cl g q vo b
section
variable {B g q:Nat}{G:Kn}{ge gk gc vo vr ne nk nc:Value}{sg sr:List Opr×Kn}{cl okp:Nat->Prop}{v:Nat->V3}{wr w':World}
theorem OwI.keep (h:(OwI B g q G ge gk gc sg sr cl okp v vo vr ne nk nc wr))(hk:∀ b,cl b->w'.heap[b]?=wr.heap[b]?)(hs:wr.heap.size<=w'.heap.size):(OwI B g q G ge gk gc sg sr cl okp v vo vr ne nk nc w'):=by
 refine⟨h.tx.keep (fun b hb _=>hk b ?_) hs (fun b hb _=>hb),h.ok,h.gq,h.Bg,h.Bq,h.cg,h.cq,h.lo,fun b hb=>Nat.lt_of_lt_of_le (h.hi b hb) hs,(hk q h.cq).trans h.bx,Qs (fun b hb=>hk b hb.1) (fun _ hb=>hb) _ _ _ h.rn,h.rc.up (fun b hb=>hk b hb.1) (fun _ hb=>hb) fun _ _ _ h=>h,?_,h.rv⟩
 ·rcases hb with hb|hb
  ·exact (h.ok b hb).1
  ·rw[hb];exact h.cg
 ·have h1:=OwnP.keep (w':=w') h.ro fun b hb=>hk b (h.rv b hb).1
  exact h1.imp fun x _ cs hx=>OpA.mon.up (fun b hb=>hk b (h.lo b hb.1)) (fun b hb=>⟨hb.1,Nat.lt_of_lt_of_le hb.2.1 hs,hb.2.2⟩) hx
theorem OwI.grow (h:(OwI B g q G ge gk gc sg sr cl okp v vo vr ne nk nc wr))(hb:Below wr.heap.size wr w'):(OwI B g q G ge gk gc sg sr cl okp v vo vr ne nk nc w'):=h.keep (fun b hc=>hb.block b (h.hi b hc)) hb.size
theorem OwI.vlt (h:(OwI B g q G ge gk gc sg sr cl okp v vo vr ne nk nc wr))(b:Nat)(e:vo.ownBlock=some b):b<wr.heap.size:=(OwnD.lt h.tx.own b e).2
theorem OwI.vge (h:(OwI B g q G ge gk gc sg sr cl okp v vo vr ne nk nc wr))(b:Nat)(e:vo.ownBlock=some b):B<=b:=by have:=(OwnD.lt h.tx.own b e).1;have:=h.Bg;omega
theorem OwI.did {o:Opr}{e:Ending}{w4:World}(h:(OwI B g q G ge gk gc sg sr cl okp v vo vr ne nk nc wr))(hD:DoR wr g okp v vo G sg.2 sg.1 o e w4) :
  ∃ okp' v' vo',OwI B g q G ge gk gc (doO sg.2 sg.1 o,doK sg.2 sg.1.length o) sr (fun b=>cl b∨(wr.heap.size<=b/\b<w4.heap.size)) okp' v' vo' vr ne nk nc w4:=by
 obtain⟨v',vo',hst',_,hvo'⟩:=hD.st
 have hs:=hD.below.size
 have hn:∀ b,vo.ownBlock≠some b->b<wr.heap.size->vo'.ownBlock≠some b:=fun b h1 h2=>by
  rcases hvo' with e1|⟨b',e1,hb'⟩
  ·rw[e1];exact h1
  ·rw[e1];intro e2;cases e2;omega
 have k1:Keeps (okC cl g q vo) wr w4:=fun b hb=>hD.keep b (h.hi b hb.1) hb.2.1 hb.2.2.2
 have k2:∀ b,okC cl g q vo b->okC (fun b=>cl b∨(wr.heap.size<=b/\b<w4.heap.size)) g q vo' b:=fun b hb=>⟨.inl hb.1,hb.2.1,hb.2.2.1,hn b hb.2.2.2 (h.hi b hb.1)⟩
 have k3:∀ b,b<B->okC cl g q vo b:=fun b hb=>⟨h.lo b hb,by have:=h.Bg;omega,by have:=h.Bq;omega,fun e=>by have:=h.vge b e;omega⟩
 refine⟨fun b=>(okp b∨wr.heap.size<=b)/\b<w4.heap.size,v',vo',hst'.keep (fun b _ _=>rfl) (Nat.le_refl _) (fun b hb hl=>⟨hb,hl⟩),fun b hb=>?_,h.gq,h.Bg,h.Bq,.inl h.cg,.inl h.cq,fun b hb=>.inl (h.lo b hb),fun b hb=>?_,(hD.keep q (h.hi q h.cq) (Ne.symm h.gq) (fun e=>(h.ok q (h.tx.ob q e)).2 rfl)).trans h.bx,Qs k1 k2 _ _ _ h.rn,h.rc.up k1 k2 fun _ _ _ h=>h,?_,fun b hb=>k2 b (h.rv b hb)⟩
 ·rcases hb with⟨hb|hb,hl⟩
  ·exact⟨.inl (h.ok b hb).1,(h.ok b hb).2⟩
  ·exact⟨.inr ⟨hb,hl⟩,by have:=h.hi q h.cq;omega⟩
 ·rcases hb with hb|hb
  ·have:=h.hi b hb;omega
  ·exact hb.2
 ·have h1:=OwnP.keep (w':=w4) h.ro fun b hb=>k1 b (h.rv b hb)
  exact h1.imp fun x _ cs hx=>OpA.mon.up (fun b hb=>k1 b (k3 b hb.1)) (fun b hb=>⟨hb.1,Nat.lt_of_lt_of_le hb.2.1 hs,hb.2.2⟩) hx
theorem OwI.ref {w5:World}{T:List Opr×Kn}{vr' ne' nk' nc':Value}(h:(OwI B g q G ge gk gc sg sr cl okp v vo vr ne nk nc wr))(hb:Below wr.heap.size wr w5)(hN:T.2.1.rda w5 (fun b=>okC cl g q vo b∨(wr.heap.size<=b/\b<w5.heap.size)) ne' nk')(hC:SlA w5 (fun b=>okC cl g q vo b∨(wr.heap.size<=b/\b<w5.heap.size)) 3 SpE nc' T.2.2)
  (hO:OwnD w5 B 65 4 OpA (fun b=>b<B) vr' T.1) (hv:∀ b,vr'.ownBlock=some b->okC cl g q vo b∨(wr.heap.size<=b/\b<w5.heap.size)) :
  OwI B g q G ge gk gc sg T (fun b=>cl b∨(wr.heap.size<=b/\b<w5.heap.size)) okp v vo vr' ne' nk' nc' ((((((((w5.setCell ⟨q,0,none⟩ ge).setCell ⟨q,1,none⟩ gk).setCell ⟨q,2,none⟩ gc).setCell ⟨q,3,none⟩ vr').setCell ⟨q,4,none⟩ ne').setCell ⟨q,5,none⟩ nk').setCell ⟨q,6,none⟩ nc')):=by
 have h5:=h.grow hb
 obtain⟨hW,hK,hS,_⟩:=box7 h5.bx ge gk gc vr' ne' nk' nc'
 have hs:=hb.size
 have hq:=h.hi q h.cq
 have hg:=h.hi g h.cg
 have n1:∀ b,(okC cl g q vo b∨(wr.heap.size<=b/\b<w5.heap.size))->okC (fun b=>cl b∨(wr.heap.size<=b/\b<w5.heap.size)) g q vo b:=fun b hb'=>by
  rcases hb' with hb'|hb'
  ·exact⟨.inl hb'.1,hb'.2.1,hb'.2.2.1,hb'.2.2.2⟩
  ·exact⟨.inr hb',by omega,by omega,fun e=>by have:=h.vlt b e;omega⟩
 have k1:∀ b,(okC cl g q vo b∨(wr.heap.size<=b/\b<w5.heap.size))->(((((((((w5.setCell ⟨q,0,none⟩ ge).setCell ⟨q,1,none⟩ gk).setCell ⟨q,2,none⟩ gc).setCell ⟨q,3,none⟩ vr').setCell ⟨q,4,none⟩ ne').setCell ⟨q,5,none⟩ nk').setCell ⟨q,6,none⟩ nc'))).heap[b]?=w5.heap[b]?:=fun b hb'=>hK b (n1 b hb').2.2.1
 refine⟨h5.tx.keep (fun b hb' _=>hK b ?_) (by rw[hS];exact Nat.le_refl _) (fun b hb' _=>hb'),fun b hb'=>⟨.inl (h.ok b hb').1,(h.ok b hb').2⟩,h.gq,h.Bg,h.Bq,.inl h.cg,.inl h.cq,fun b hb'=>.inl (h.lo b hb'),fun b hb'=>?_,hW,Qs k1 n1 _ _ _ hN,hC.up k1 n1 fun _ _ _ h=>h,?_,fun b hb'=>n1 b (hv b hb')⟩
 ·rcases hb' with hb'|hb'
  ·exact (h.ok b hb').2
  ·rw[hb'];exact h.gq
 ·rw[hS]
  rcases hb' with hb'|hb'
  ·have:=h.hi b hb';omega
  ·exact hb'.2
 ·have h1:=OwnP.keep (w':=((((((((w5.setCell ⟨q,0,none⟩ ge).setCell ⟨q,1,none⟩ gk).setCell ⟨q,2,none⟩ gc).setCell ⟨q,3,none⟩ vr').setCell ⟨q,4,none⟩ ne').setCell ⟨q,5,none⟩ nk').setCell ⟨q,6,none⟩ nc'))) hO fun b hb'=>k1 b (hv b hb')
  exact h1.imp fun x _ cs hx=>OpA.mon.up (fun b hb'=>hK b (by have:=hb'.1;have:=h.Bq;omega)) (fun b hb'=>⟨hb'.1,by rw[hS];exact hb'.2.1,hb'.2.2⟩) hx
end
theorem OwI.rdo {B g q:Nat}{G:Kn}{ge gk gc vo vr ne nk nc:Value}{sg sr:List Opr×Kn}{cl okp:Nat->Prop}{v:Nat->V3}{wr w5:World}{o:Opr}{e:Ending}(h:(OwI B g q G ge gk gc sg sr cl okp v vo vr ne nk nc wr))(hR:RDoR wr.drew B sr.2 sr.1 o ge gk gc vr ne nk nc e w5)(hB:B<=wr.heap.size) :
  ∃ vr' ne' nk' nc',e=.returned (.tuple #[.agg #[ge,gk,gc,vr',ne',nk',nc'],.int .i64 (doI sr.2 sr.1.length o)])/\(doK sr.2 sr.1.length o).1.rda w5 (fun b=>okC cl g q vo b∨(wr.heap.size<=b/\b<w5.heap.size)) ne' nk'/\SlA w5 (fun b=>okC cl g q vo b∨(wr.heap.size<=b/\b<w5.heap.size)) 3 SpE nc' (doK sr.2 sr.1.length o).2 /\
   OwnD w5 B 65 4 OpA (fun b=>b<B) vr' (doO sr.2 sr.1 o)/\(∀ b,vr'.ownBlock=some b->okC cl g q vo b∨(wr.heap.size<=b/\b<w5.heap.size))/\Below wr.heap.size wr w5:=by
 obtain⟨hR,hb⟩:=hR
 have hbw:Below wr.heap.size wr w5:=(Below.refl wr.heap.size wr).drew.trans hb
 rcases hR with⟨hz,he⟩|⟨hz,vr',ne',nk',nc',he,hN,hC,hO⟩
 ·have e8:doK sr.2 sr.1.length o=sr.2:=if_neg hz
  have e9:doO sr.2 sr.1 o=sr.1:=if_neg hz
  rw[e8,e9]
  exact⟨vr,ne,nk,nc,he,Qs (fun b hb'=>hbw.block b (h.hi b hb'.1)) (fun _ hb'=>.inl hb') _ _ _ h.rn,h.rc.up (fun b hb'=>hbw.block b (h.hi b hb'.1)) (fun _ hb'=>.inl hb') fun _ _ _ h=>h,OwnD.grow h.ro OpA.mon hbw,fun b hb'=>.inl (h.rv b hb'),hbw⟩
 ·have e8:doK sr.2 sr.1.length o=aftK sr.2 o (txD sr.1.length):=if_pos hz
  have e9:doO sr.2 sr.1 o=sr.1++[o]:=if_pos hz
  rw[e8,e9,hz]
  exact⟨vr',ne',nk',nc',he,Qs (fun _ _=>rfl) (fun _ hb'=>.inr hb') _ _ _ hN,hC.up (fun _ _=>rfl) (fun _ hb'=>.inr hb') fun _ _ _ h=>h,OwnD.mono hO hB,fun b hb'=>.inr (OwnD.lt hO b hb'),hbw⟩
def PtS (w:World)(ok:Nat->Prop)(v:Value)(n:Nat):Prop:=∃ A c,v=.slice A n c/\n<=c/\n<=Big/\(n≠0->∃ b off,A=some ⟨b,off,none⟩/\ok b/\UFb w b/\Plain w b off n)
theorem PtS.of {w:World}{ok:Nat->Prop}{v:Value}{p:List ByteArray}(h:SlU w ok 1 StE v p):PtS w ok v p.length:=by
 obtain⟨A,n,rfl,a1,a2,a3⟩:=h
 refine⟨A,n,rfl,a1,a2,fun hn=>?_⟩
 obtain⟨b,off,rfl,hb,hc⟩:=a3 (by rintro rfl;simp at hn)
 refine⟨b,off,rfl,hb.1,hb.2,fun i hi=>?_⟩
 obtain⟨cs,⟨rfl,_⟩,_,hu⟩:=hc i _ (List.getElem?_eq_getElem hi)
 exact⟨_,by simpa using hu 0 _ rfl,rfl⟩
theorem PtS.row {w:World}{ok:Nat->Prop}{A:Option Addr}{n c lo d:Nat}(h:PtS w ok (.slice A n c) n)(hok:∀ b,ok b->lo<=b/\b<w.heap.size)(hd:lo<=d/\d<w.heap.size) :
  ∃ p off,lo<=p/\p<w.heap.size/\(n≠0->A=some ⟨p,off,none⟩/\UFb w p/\Plain w p off n):=by
 obtain⟨A',c',hv,_,_,h3⟩:=h
 simp only[Value.slice.injEq]at hv
 obtain⟨rfl,_,_⟩:=hv
 by_cases hn:n=0
 ·exact⟨d,0,hd.1,hd.2,fun h=>absurd hn h⟩
 ·obtain⟨b,off,rfl,ho,hu,hp⟩:=h3 hn
  exact⟨b,off,(hok b ho).1,(hok b ho).2,fun _=>⟨rfl,hu,hp⟩⟩
theorem BegR.below {w w':World}{x:Kn}{e:Ending}(h:BegR w x e w'):Below w.heap.size w w':=by
 rcases h with⟨_,_,h⟩|⟨_,_,_,_,_,_,h⟩<;>exact h
theorem Plain.same {w w':World}{b o n:Nat}(h:Plain w b o n)(hk:w'.heap[b]?=w.heap[b]?):Plain w' b o n:=fun i hi=>by
 obtain⟨u,h1,h2⟩:=h i hi
 exact⟨u,(World.cell?_of_block hk).trans h1,h2⟩
theorem PtS.scr {base:Nat}{w w':World}(h:Scr base w w'){ok:Nat->Prop}(hk:∀ b,ok b->b<w.heap.size){v:Value}{n:Nat}(hc:PtS w ok v n):PtS w' ok v n:=by
 obtain⟨A,c,rfl,a1,a2,a3⟩:=hc
 refine⟨A,c,rfl,a1,a2,fun hn=>?_⟩
 obtain⟨b,off,rfl,ho,hu,hp⟩:=a3 hn
 exact⟨b,off,rfl,ho,h.uf b (hk b ho) hu,hp.scr h (hk b ho)⟩
def OpS (w:World)(ok:Nat->Prop)(v:Value)(l:List Opr):Prop:=∃ A c,v=.slice A l.length c/\l.length<=Big/\∀ k x,l[k]?=some x->∃ b off D m,A=some ⟨b,off,none⟩/\b<w.heap.size/\w.cell? ⟨b,off+k*4,none⟩=some (.slice D x.path.length m)/\PtS w ok (.slice D x.path.length m) x.path.length
theorem OpS.of {w:World}{base:Nat}{v:Value}{l:List Opr}(h:OwnD w base 65 4 OpU (fun b=>base<=b) v l)(hl:l.length<=Big):OpS w (fun b=>base<=b/\b<w.heap.size) v l:=by
 obtain⟨A,c,rfl,h1,h2,h3⟩:=OwnP.sl h hl
 refine⟨A,c,rfl,h2,fun k x hx=>?_⟩
 obtain⟨b,off,rfl,hb,hc⟩:=h3 (by rintro rfl;simp at hx)
 obtain⟨cs,⟨D,m,rfl,hp,_⟩,_,hu⟩:=hc k x hx
 exact⟨b,off,D,m,rfl,hb,hu 0 _ rfl,PtS.of (hp.up (fun _ _=>rfl) (fun b hb=>⟨hb.1,hb.2.1⟩) fun _ _ _ h=>h)⟩
theorem OpS.scr {base:Nat}{w w':World}(h:Scr base w w'){ok:Nat->Prop}(hk:∀ b,ok b->b<w.heap.size){v:Value}{l:List Opr}(hc:OpS w ok v l):OpS w' ok v l:=by
 obtain⟨A,c,rfl,h1,h2⟩:=hc
 refine⟨A,c,rfl,h1,fun k x hx=>?_⟩
 obtain⟨b,off,D,m,rfl,hb,e1,hp⟩:=h2 k x hx
 exact⟨b,off,D,m,rfl,Nat.lt_of_lt_of_le hb h.below.size,h.head hb e1,hp.scr h hk⟩
theorem Scr.text {base:Nat}{w w':World}{b o n i:Nat}(h:Scr base w w')(hp:Plain w' b o n)(hb:base<=b)(hlt:b<w'.heap.size)(hi:i<n)(s:ByteArray):Scr base w (w'.setCell ⟨b,o+i,none⟩ (.string s)):=
 (h.put hp hb hlt (i:=i) (u:=.string s) hi rfl).1
structure RowW (w W:World)(p:Nat):Prop where
 size:W.heap.size=w.heap.size
 keep:∀ b,b≠p->W.heap[b]?=w.heap[b]?
 below:Below p w W
theorem RowW.refl (w:World)(p:Nat):RowW w w p:=⟨rfl,fun _ _=>rfl,Below.refl _ _⟩
theorem RowW.put {w W:World}{p:Nat}(h:RowW w W p)(o:Nat)(u:Value):RowW w (W.setCell ⟨p,o,none⟩ u) p:=
 ⟨by rw[←h.size];simp[World.setCell],fun b hb=>(Below.heap_setCell _ _ _ _ hb).trans (h.keep b hb),h.below.setCell (p:=⟨p,o,none⟩) (Nat.le_refl _) u⟩
theorem Plain.put {w:World}{b o n i:Nat}{u:Value}(hp:Plain w b o n)(hlt:b<w.heap.size)(hi:i<n)(hu:Zw u=false):Plain (w.setCell ⟨b,o+i,none⟩ u) b o n:=((Scr.refl 0 w).put hp (Nat.zero_le _) hlt hi hu).2.1
def c20:ByteArray:=⟨#[99]⟩
def o20:Opr:=⟨[c20],5,ByteArray.empty,2⟩
def t20:Tr:=.mk [] [(c20,.mk [⟨0,1099511627765,ByteArray.empty,2⟩] [])]
theorem zYa:begE kn0=0:=by kernel_rfl
theorem qXe:doI kn0 0 o20=0:=by kernel_rfl
theorem zYb:appI kn0.1 o20 (txD 0)=0:=by kernel_rfl
theorem zYc:appT kn0.1 o20 (txD 0)=t20:=by kernel_rfl
theorem zYd:readI t20 [c20]=0:=by kernel_rfl
theorem zYe:readV t20 [c20]=⟨3,false,2,[]⟩:=by kernel_rfl
theorem zYf:(doK kn0 0 o20).1=t20:=by
 have h1:doK kn0 0 o20=aftK kn0 o20 (txD 0):=if_pos qXe
 have h2:aftK kn0 o20 (txD 0)=(appT kn0.1 o20 (txD 0),appC kn0.1 o20 (txD 0)):=qWi (QT zYb).1
 rw[h1,h2]
 exact zYc
theorem KC (w:World):Calls Tryz.prog 18 #[] w fun e w'=>e=.returned (.bool true)/\Below w.heap.size w w':=by
 have HO:Hid (o20.Ok):=⟨⟨by decide,by decide⟩,⟨by decide,by decide⟩,by decide⟩
 have HCB:Hid (c20.size<=Big):=by unfold Hid;decide
 have HI:=hid qXe
 go_enter Tryz.func18,Tryz.ntmps18
 go_wp2_with fail
 refine (qQ2 kn0 _ _ _ _ qXm SlP.nil (by simp[kn0,Tr.sz,Tr.szL]) (by simp[kn0])).mono ?_
 rintro e w1 (⟨h1,_⟩|⟨_,g,v,rfl,hg,hst,hb1⟩)
 ·rw[zYa]at h1;cases h1
 have HST:=hid hst
 have hs1:=hb1.size
 have hgl:=hst.lt
 clear hst
 go_wp2_with fail
 refine (qY5 o20 _ _ (HST.out.grow ((Below.refl _ w1).alloc (Nat.le_refl _) (.cells #[.string c20] 9))) qQr (by simp[kn0,Tr.sz,Tr.szL]) (by simp[kn0]) (by simp) (SlA.one (E:=StE) (x:=c20) (cs:=[.string c20]) ⟨rfl,HCB.out⟩ rfl (Qd rfl) ⟨by omega,by simp,by simp[Value.ownBlock]⟩) HO.out (by simp[o20])).mono ?_
 have hI:doI kn0 ([]:List Opr).length o20=0:=qXe
 have hK:(doK kn0 ([]:List Opr).length o20).1=t20:=zYf
 rintro e w2 ⟨rfl,⟨v2,vo2,hst2,_,_⟩,hkp,hbl⟩
 rw[hI]
 have HK:=hid hK
 have HST2:=hid hst2
 have hs2:=hbl.size
 rw[World.size_alloc]at hs2
 have HB2:Hid (Below w.heap.size w w2):=hid ((hb1.alloc hs1 _).trans (hbl.mono hg))
 have hsw2:=HB2.out.size
 clear hK hI hst2 hkp hbl hb1
 go_wp2_with fail
 refine (qKh [c20] _ (HST2.out.grow ((Below.refl _ w2).alloc (Nat.le_refl _) (.cells #[.string c20] 9))) (SlP.oneB (E:=StE) (x:=c20) (cs:=[.string c20]) ⟨rfl,HCB.out⟩ rfl _ rfl (by simp)) (by rw[HK.out];decide)).mono ?_
 rw[HK.out,zYd,zYe]
 rintro e w3 ⟨vl,rfl,hsl,hb3⟩
 obtain⟨Al,nl,rfl⟩:=hsl.shape
 have hB3:=(HB2.out.alloc hsw2 (.cells #[.string c20] 9)).trans (hb3.mono (by rw[World.size_alloc];omega))
 have hb4:=hB3.alloc (o:=.cells #[.int .i64 3,.bool false,.int .i64 2,.slice Al 0 nl] 55) hB3.size
 have HB4:=hid hb4
 clear hsl hb3 hB3 hb4
 go_wp2_with fail
 go_ret
 exact⟨rfl,HB4.out⟩
theorem qUr (t:Tr)(c:List Sp):(trEq t t&&decide (c=c))=true:=by rw[VI.2 rfl];simp
theorem qUs (t:Tr)(tc:List Sp)(l:List Opr)(w:World)(ve0 vk0 vc0 vl1:Value)(h0:t.rd w w.heap.size ve0 vk0)(hc0:SlP w w.heap.size 3 SpE vc0 tc)(h1:OpL w vl1 l) :
  Calls Tryz.prog 6 #[.agg #[ve0,vk0,vc0],vl1] w fun e w'=>e=.returned (.bool true)/\Below w.heap.size w w':=by
 have HC0:Hid (∀ w',Below w.heap.size w w'->t.rd w' w'.heap.size ve0 vk0):=fun w' hb=>Qi hb hb.size _ _ _ h0
 have HD0:Hid (∀ w',Below w.heap.size w w'->SlP w' w'.heap.size 3 SpE vc0 tc):=fun w' hb=>hc0.imp hb hb.size fun _ _ _ h=>h
 obtain⟨A0,n0,B0,m0,rfl,rfl⟩:=Qj h0
 obtain⟨D0,k0,rfl,_⟩:=hc0
 clear h0
 have HC1:Hid (∀ w',Below w.heap.size w w'->OpL w' vl1 l):=fun w' hb=>h1.up hb
 obtain⟨A1,n1,rfl,_⟩:=id h1
 have HX0:Hid (∀ W,Below (w.heap.size+1) (w.alloc (.cells #[.slice A0 t.es.length n0,.slice B0 t.ks.length m0,.slice D0 tc.length k0] 29)) W->(Below w.heap.size w W/\w.heap.size+1<=(W).heap.size/\t.rd W (W).heap.size (.slice A0 t.es.length n0) (.slice B0 t.ks.length m0)/\SlP W (W).heap.size 3 SpE (.slice D0 tc.length k0) tc/\OpL W (.slice A1 l.length n1) l/\(W).cell? ⟨w.heap.size,0,none⟩=some (.slice A0 t.es.length n0)/\(W).cell? ⟨w.heap.size,1,none⟩=some (.slice B0 t.ks.length m0)/\(W).cell? ⟨w.heap.size,2,none⟩=some (.slice D0 tc.length k0))):=fun W hW=>by
  have g0:W.heap[w.heap.size]?=some (.cells #[.slice A0 t.es.length n0,.slice B0 t.ks.length m0,.slice D0 tc.length k0] 29 (0,0)):=(hW.block _ (by omega)).trans (Qd rfl)
  have hB:Below w.heap.size w W:=((Below.refl _ w).alloc (Nat.le_refl _) _).trans (hW.mono (by omega))
  exact⟨hB,by have:=hW.size;simpa using this,HC0.out _ hB,HD0.out _ hB,HC1.out _ hB,Qa (i:=0) g0,Qa (i:=1) g0,Qa (i:=2) g0⟩
 go_enter Tryz.func6,Tryz.ntmps6
 have HX1:Hid (∀ W,Below (w.heap.size+1) (w.alloc (.cells #[.slice A0 t.es.length n0,.slice B0 t.ks.length m0,.slice D0 tc.length k0] 29)) W->(Below (w.heap.size+1) (w.alloc (.cells #[.slice A0 t.es.length n0,.slice B0 t.ks.length m0,.slice D0 tc.length k0] 29)) W/\Below w.heap.size w W/\w.heap.size+1<=(W).heap.size/\t.rd W (W).heap.size (.slice A0 t.es.length n0) (.slice B0 t.ks.length m0)/\SlP W (W).heap.size 3 SpE (.slice D0 tc.length k0) tc/\OpL W (.slice A1 l.length n1) l/\(W).cell? ⟨w.heap.size,0,none⟩=some (.slice A0 t.es.length n0)/\(W).cell? ⟨w.heap.size,1,none⟩=some (.slice B0 t.ks.length m0)/\(W).cell? ⟨w.heap.size,2,none⟩=some (.slice D0 tc.length k0))):=fun W hW=>
  ⟨hW,HX0.out W hW⟩
 obtain⟨FW,HFW⟩:∃ q,Hid (fewL (t,tc) l=q):=⟨_,rfl⟩
 go_wp2_with fail
 obtain⟨hW0,hB,hs,rt0,rc0,ro1,c00,c01,c02⟩:=HX1.out _ (Below.refl _ _)
 refine (KC _).mono ?_
 rintro e w1 ⟨rfl,hb⟩
 have hbk1:Hid (Below (w.heap.size+1) (w.alloc (.cells #[.slice A0 t.es.length n0,.slice B0 t.ks.length m0,.slice D0 tc.length k0] 29)) w1):=hid (hb.mono (by first|omega|(simp;done)|(simp;omega)))
 clear hb
 clear hW0 hB hs rt0 rc0 ro1 c00 c01 c02
 obtain⟨hW0,hB,hs,rt0,rc0,ro1,c00,c01,c02⟩:=HX1.out _ hbk1.out
 go_wp2_with fail
 refine (qUo (t,tc) l _ _ _ _ _ rt0 rc0 ro1).mono ?_
 rw[HFW.out]
 rintro e w2 ⟨rfl,hb⟩
 have hbk2:Hid (Below (w.heap.size+1) (w.alloc (.cells #[.slice A0 t.es.length n0,.slice B0 t.ks.length m0,.slice D0 tc.length k0] 29)) w2):=hid (hbk1.out.trans (hb.mono (by first|omega|(simp;done)|(simp;omega))))
 clear hb
 clear hW0 hB hs rt0 rc0 ro1 c00 c01 c02
 obtain⟨hW0,hB,hs,rt0,rc0,ro1,c00,c01,c02⟩:=HX1.out _ hbk2.out
 cases FW
 ·skip
  go_wp2_with fail
  refine (KC _).mono ?_
  rintro e w3 ⟨rfl,hb⟩
  have hbk3:Hid (Below (w.heap.size+1) (w.alloc (.cells #[.slice A0 t.es.length n0,.slice B0 t.ks.length m0,.slice D0 tc.length k0] 29)) w3):=hid (hbk2.out.trans (hb.mono (by first|omega|(simp;done)|(simp;omega))))
  clear hb
  clear hW0 hB hs rt0 rc0 ro1 c00 c01 c02
  obtain⟨hW0,hB,hs,rt0,rc0,ro1,c00,c01,c02⟩:=HX1.out _ hbk3.out
  go_wp2_with fail
  go_ret
  exact⟨rfl,hB⟩
 ·skip
  have HSZ:Hid ((t.sz<=40/\tc.length<=40)/\l.length<=20/\l.all Q9=true):=by
   have h:=HFW.out
   unfold fewL at h
   simp only[Bool.and_eq_true,decide_eq_true_eq]at h
   exact⟨zX0 h.1,h.2.1,h.2.2⟩
  have hz:=HSZ.out.1.1
  have hz2:=HSZ.out.1.2
  have hL:=HSZ.out.2.1
  have HSH:Hid (∀ o∈l,Q9 o=true):=fun o ho=>List.all_eq_true.1 HSZ.out.2.2 o ho
  go_wp2_with fail
  refine (qXg t tc _ _ _ _ rt0 rc0 (by omega) (by omega)).mono ?_
  rintro e w3 ⟨xe3,xk3,xc3,rfl,hrd3,hsl3,hb⟩
  obtain⟨A3x,n3x,B3x,m3x,rfl,rfl⟩:=QY hrd3
  obtain⟨D3x,k3x,rfl⟩:=SlU.shape hsl3
  have hlo:w.heap.size+1<=(w2).heap.size:=(by first|omega|(simp;done)|(simp;omega))
  have hlo2:(w2).heap.size<=w3.heap.size:=hb.size
  have HRU:=hid hrd3
  replace hrd3:=qX7 (fun _ _=>rfl) (fun _ h=>h) _ _ _ hrd3
  replace hsl3:=hsl3.dn
  have hbk3:Hid (Below (w.heap.size+1) (w.alloc (.cells #[.slice A0 t.es.length n0,.slice B0 t.ks.length m0,.slice D0 tc.length k0] 29)) w3):=hid (hbk2.out.trans (hb.mono (by first|omega|(simp;done)|(simp;omega))))
  clear hb
  clear hW0 hB hs rt0 rc0 ro1 c00 c01 c02
  obtain⟨hW0,hB,hs,rt0,rc0,ro1,c00,c01,c02⟩:=HX1.out _ hbk3.out
  have hlt349:w.heap.size<w3.heap.size:=by omega
  have hne349:w.heap.size≠w3.heap.size:=by omega
  have hnr349:w3.heap.size≠w.heap.size:=by omega
  have HX2:Hid (∀ W,Below (w3.heap.size+1) (w3.alloc (.cells #[.slice A3x t.es.length n3x,.slice B3x t.ks.length m3x,.slice D3x tc.length k3x] 29)) W->(w3.heap.size+1<=(W).heap.size/\t.rd W (W).heap.size (.slice A3x t.es.length n3x) (.slice B3x t.ks.length m3x)/\SlP W (W).heap.size 3 SpE (.slice D3x tc.length k3x) tc/\t.rdu W (fun b=>(w2).heap.size<=b/\b<w3.heap.size) (.slice A3x t.es.length n3x) (.slice B3x t.ks.length m3x)/\(W).cell? ⟨w3.heap.size,0,none⟩=some (.slice A3x t.es.length n3x)/\(W).cell? ⟨w3.heap.size,1,none⟩=some (.slice B3x t.ks.length m3x)/\(W).cell? ⟨w3.heap.size,2,none⟩=some (.slice D3x tc.length k3x)/\Below (w.heap.size+1) (w.alloc (.cells #[.slice A0 t.es.length n0,.slice B0 t.ks.length m0,.slice D0 tc.length k0] 29)) W/\Below w.heap.size w W/\w.heap.size+1<=(W).heap.size/\t.rd W (W).heap.size (.slice A0 t.es.length n0) (.slice B0 t.ks.length m0)/\SlP W (W).heap.size 3 SpE (.slice D0 tc.length k0) tc/\OpL W (.slice A1 l.length n1) l/\(W).cell? ⟨w.heap.size,0,none⟩=some (.slice A0 t.es.length n0)/\(W).cell? ⟨w.heap.size,1,none⟩=some (.slice B0 t.ks.length m0)/\(W).cell? ⟨w.heap.size,2,none⟩=some (.slice D0 tc.length k0))):=fun W hW=>by
   have g0:=(hW.block w3.heap.size (by omega)).trans (Qd rfl)
   have hB:Below w3.heap.size w3 W:=((Below.refl _ w3).alloc (Nat.le_refl _) _).trans (hW.mono (by omega))
   exact⟨by have:=hW.size;simpa using this,Zx hrd3 (fun b hb=>hb.2) hB,hsl3.slp (fun b hb=>hb.2) hB,YH (fun b hb=>hB.block b hb.2) (fun _ hb=>hb) _ _ _ HRU.out,Qa (i:=0) g0,Qa (i:=1) g0,Qa (i:=2) g0,HX1.out W (hbk3.out.trans (hB.mono (by omega)))⟩
  clear hrd3 hsl3
  go_wp2_with fail
  clear hW0 hB hs rt0 rc0 ro1 c00 c01 c02
  obtain⟨hs_g,rt_g,rc_g,ru_g,c0_g,c1_g,c2_g,hW0,hB,hs,rt0,rc0,ro1,c00,c01,c02⟩:=HX2.out _ (Below.refl _ _)
  refine (qQ2 (t,tc) _ _ _ _ rt_g rc_g (by show t.sz<=_;omega) (by show tc.length<=_;omega)).mono ?_
  rintro e w4 h
  have hb:=h.below
  have hbk4:Hid (Below (w3.heap.size+1) (w3.alloc (.cells #[.slice A3x t.es.length n3x,.slice B3x t.ks.length m3x,.slice D3x tc.length k3x] 29)) w4):=hid (hb.mono (by first|omega|(simp;done)|(simp;omega)))
  clear hb
  clear hs_g rt_g rc_g ru_g c0_g c1_g c2_g hW0 hB hs rt0 rc0 ro1 c00 c01 c02
  obtain⟨hs_g,rt_g,rc_g,ru_g,c0_g,c1_g,c2_g,hW0,hB,hs,rt0,rc0,ro1,c00,c01,c02⟩:=HX2.out _ hbk4.out
  rcases h with⟨hE,rfl,_⟩|⟨hE,g,v,rfl,hg,hT,_⟩
  ·skip
   go_wp2_with fail
   go_ret
   exact⟨rfl,hB⟩
  ·skip
   have HE:=hid hE
   have HK:Hid (KOk (t,tc)):=by
    have h:=hE
    unfold begE at h
    split at h
    ·rename_i hr;exact Xe.1 hr
    ·cases h
   have HCR:Hid (caR (t,tc).1 (t,tc).2=true):=hid (Xe.2 HK.out)
   simp only[World.size_alloc]at hg hT
   have HT4:=hid hT
   have hgl4:g<w4.heap.size:=hT.lt
   have HRG:=hid ru_g
   have HW4:=hid hW0
   clear hE hT
   go_wp2_with fail
   refine (VL t w4 _ _ (w2).heap.size (fun b=>(w2).heap.size<=b/\b<w3.heap.size) (by omega) (fun b hb=>⟨hb.1,by have:=hb.2;omega⟩) (qZn _ _ _ HRG.out)).mono ?_
   rintro e w5 ⟨rfl,hS⟩
   have HB5:Hid (Below (w.heap.size+1) (w.alloc (.cells #[.slice A0 t.es.length n0,.slice B0 t.ks.length m0,.slice D0 tc.length k0] 29)) w5):=hid (HW4.out.trans (hS.s.below.mono hlo))
   have HT5:Hid (TxB w5 g (fun b=>w3.heap.size+1<=b/\b<w4.heap.size) v (.slice none 0 0) (t,tc) (t,tc) []):=HT4.out.keep (fun b hb hl=>hS.kd b hl (by rcases hb with hb|hb<;>omega)) hS.s.below.size (fun b hb hl=>⟨hb,hl⟩)
   have hs45:=hS.s.below.size
   clear hS HRG HT4
   clear hs_g rt_g rc_g ru_g c0_g c1_g c2_g hW0 hB hs rt0 rc0 ro1 c00 c01 c02
   obtain⟨hW0,hB,hs,rt0,rc0,ro1,c00,c01,c02⟩:=HX1.out _ HB5.out
   go_wp2_with fail
   refine (qQ3 (t,tc) _ _ _ _ rt0 rc0 (by show t.sz<=_;omega) (by show tc.length<=_;omega)).mono ?_
   rintro e w6 ⟨h6,hb⟩
   have hb56:=hb
   have hs56:=hb.size
   have hbk6:Hid (Below (w.heap.size+1) (w.alloc (.cells #[.slice A0 t.es.length n0,.slice B0 t.ks.length m0,.slice D0 tc.length k0] 29)) w6):=hid (HB5.out.trans (hb.mono (by first|omega|(simp;done)|(simp;omega))))
   clear hb
   clear hW0 hB hs rt0 rc0 ro1 c00 c01 c02
   obtain⟨hW0,hB,hs,rt0,rc0,ro1,c00,c01,c02⟩:=HX1.out _ hbk6.out
   obtain⟨_,rfl⟩:=h6.resolve_left (fun h=>by rw[HE.out]at h;cases h.1)
   have HB6z:=hid hW0
   have hBw6:=hB
   obtain⟨q,hq⟩:∃ q,q=w6.heap.size:=⟨_,rfl⟩
   have HOI:Hid (OwI (w.heap.size+1) g q (t,tc) (.slice A0 t.es.length n0) (.slice B0 t.ks.length m0) (.slice D0 tc.length k0) (txS (t,tc) (l.take 0)) (txS (t,tc) (l.take 0)) (fun b=>b<w6.heap.size+1) (fun b=>w3.heap.size+1<=b/\b<w4.heap.size) v (.slice none 0 0) (.slice none 0 0) (.slice A0 t.es.length n0) (.slice B0 t.ks.length m0) (.slice D0 tc.length k0) (w6.alloc (.cells #[(.slice A0 t.es.length n0),(.slice B0 t.ks.length m0),(.slice D0 tc.length k0),(.slice none 0 0),(.slice A0 t.es.length n0),(.slice B0 t.ks.length m0),(.slice D0 tc.length k0)] 51))):=by
    have h0:txS (t,tc) (l.take 0)=([],(t,tc)):=rfl
    unfold Hid
    rw[h0]
    have hbw:Below w.heap.size w (w6.alloc (.cells #[(.slice A0 t.es.length n0),(.slice B0 t.ks.length m0),(.slice D0 tc.length k0),(.slice none 0 0),(.slice A0 t.es.length n0),(.slice B0 t.ks.length m0),(.slice D0 tc.length k0)] 51)):=hBw6.alloc hBw6.size _
    have k1:Keeps (fun b=>b<w.heap.size) w (w6.alloc (.cells #[(.slice A0 t.es.length n0),(.slice B0 t.ks.length m0),(.slice D0 tc.length k0),(.slice none 0 0),(.slice A0 t.es.length n0),(.slice B0 t.ks.length m0),(.slice D0 tc.length k0)] 51)):=fun b hb=>hbw.block b hb
    have k2:∀ b,b<w.heap.size->okC (fun b=>b<w6.heap.size+1) g q (.slice none 0 0) b:=fun b hb=>⟨by omega,by omega,by omega,by simp[Value.ownBlock]⟩
    exact⟨(HT5.out.grow hb56).grow ((Below.refl _ _).alloc (Nat.le_refl _) _),fun b hb=>⟨by omega,by omega⟩,by omega,by omega,by omega,by omega,by omega,fun b hb=>by omega,fun b hb=>by simpa using hb,by rw[hq];exact Qd rfl,Qs k1 k2 _ _ _ ((zZq t _ _).1 (HC0.out w (Below.refl _ _))),(Z8.1 (HD0.out w (Below.refl _ _))).up k1 k2 (fun _ _ _ h=>h),OwnD.nil,fun b hb=>by simp[Value.ownBlock]at hb⟩
   have HBZ:Hid (Below (w.heap.size+1) (w.alloc (.cells #[.slice A0 t.es.length n0,.slice B0 t.ks.length m0,.slice D0 tc.length k0] 29)) (w6.alloc (.cells #[(.slice A0 t.es.length n0),(.slice B0 t.ks.length m0),(.slice D0 tc.length k0),(.slice none 0 0),(.slice A0 t.es.length n0),(.slice B0 t.ks.length m0),(.slice D0 tc.length k0)] 51))):=hid (HB6z.out.alloc (by omega) _)
   clear hBw6 hb56
   go_wp2_with fail
   clear hW0 hB hs rt0 rc0 ro1 c00 c01 c02
   rw[←hq]
   have HWB:Hid (∀ W,Below (w.heap.size+1) (w.alloc (.cells #[.slice A0 t.es.length n0,.slice B0 t.ks.length m0,.slice D0 tc.length k0] 29)) W->Below w.heap.size w W):=fun W hW=>by
    obtain⟨_,z,_,_,_,_,_,_,_⟩:=HX1.out W hW
    exact z
   go_loopw [48] (fun i wr=>∃ k:Nat,k<=l.length/\i=.int .i64 k/\(∃ cl okp v vo vr ne nk nc,OwI (w.heap.size+1) g q (t,tc) (.slice A0 t.es.length n0) (.slice B0 t.ks.length m0) (.slice D0 tc.length k0) (txS (t,tc) (l.take k)) (txS (t,tc) (l.take k)) cl okp v vo vr ne nk nc wr)/\Below (w.heap.size+1) (w.alloc (.cells #[.slice A0 t.es.length n0,.slice B0 t.ks.length m0,.slice D0 tc.length k0] 29)) wr) (fun i _=>l.length-(intOf i).toNat)
   case atStart=>exact⟨0,Nat.zero_le _,rfl,⟨_,_,_,_,_,_,_,_,HOI.out⟩,HBZ.out⟩
   case round=>
    clear HOI HBZ HT5 hq
    obtain⟨k,hk,rfl,⟨cl,okp,v,vo,vr,ne,nk,nc,hOW⟩,hb0⟩:=hrel
    have HBW:=hid hb0
    have HBL:=hid (HWB.out _ hb0)
    have HOW:=hid hOW
    clear hOW hb0
    have hI:=(qXd (t,tc) (l.take k)).facts HK.out hz hz2
    have hIl:=(qXd (t,tc) (l.take k)).len
    have HMEM:=hid (qUn (t,tc) (l.take k))
    obtain⟨⟨O,N⟩,HS⟩:∃ S,Hid (txS (t,tc) (l.take k)=S):=⟨_,rfl⟩
    rw[HS.out]at hI hIl HOW HMEM
    simp only at hI hIl HMEM
    by_cases hlt:k<l.length
    ·skip
     obtain⟨wo,rfl⟩:∃ wo:World,wo=wr:=⟨_,rfl⟩
     have hki:(k:Int)<(l.length:Int):=by omega
     obtain⟨x,hx⟩:∃ x,l[k]?=some x:=⟨_,List.getElem?_eq_getElem hlt⟩
     have HTK:Hid (txS (t,tc) (l.take (k+1))=(doO N O x,doK N O.length x)):=by have h:=zZe (G:=(t,tc)) hx;rw[HS.out]at h;exact h
     have HPL:Hid (x.path.length<=1000):=by
      have h:=HSH.out x (List.mem_of_getElem? hx)
      unfold Q9 at h
      simp only[Bool.and_eq_true,decide_eq_true_eq]at h
      unfold Hid;omega
     obtain⟨b,off,A6,c6,hA6,hbB,hpx,hox,hu⟩:=OpL.at (HC1.out w (Below.refl _ _)) hx
     subst hA6
     have hBl:=HBL.out
     have hwo:w.heap.size+1<=wo.heap.size:=by have:=HBW.out.size;simpa using this
     obtain⟨e0,e1,e2,e3⟩:=hu wo (hBl.block b hbB)
     have HU:=hid hu
     have HPX:=hid hpx
     have HOX:=hid hox
     have hpn:=HPL.out
     clear hu hpx hox hx
     have hbw:b≠wo.heap.size:=by omega
     have hBY:Below wo.heap.size wo ((wo.alloc (.cells #[.slice A6 x.path.length c6,.int .i64 x.act,.string x.s,.int .i64 x.n] 65)).alloc (.cells #[] 9)):=((Below.refl _ wo).alloc (Nat.le_refl _) _).alloc (by simp) _
     have HZR:Hid (((wo.alloc (.cells #[.slice A6 x.path.length c6,.int .i64 x.act,.string x.s,.int .i64 x.n] 65)).alloc (.cells #[] 9)).heap[wo.heap.size+1]?=some (.cells #[] 9 (0,0))):=Qd (by simp)
     have HPA:=hid (HPX.out.imp (hBl.trans (hBY.mono (by omega))) (Nat.le_trans hBl.size hBY.size) fun _ _ _ h=>h)
     have HBY:=hid hBY
     clear hBY
     go_wp2_with (at_builtin;go_loud ((with_reducible refine Qk (v:=.slice (some ⟨wo.heap.size+1,0,none⟩) 0 0) (base:=wo.heap.size+1) rfl (.tmp 55) (.tmp 57) _ rfl eiStr (by decide) (by decide) (fun _ _ h=>StE.one h) rfl (OwnP.zero HZR.out (Nat.le_refl _)) rfl HPA.out (by unfold Few;simp;omega) (by simp) ?_);intro v1 w3 hown1 hb1 _;rw[List.nil_append]at hown1;obtain⟨A7,c7,hv7⟩:=OwnP.shape hown1;subst hv7;have g3:w3.heap[wo.heap.size]?=some (.cells #[.slice A6 x.path.length c6,.int .i64 x.act,.string x.s,.int .i64 x.n] 65 (0,0)):=(hb1.block _ (by omega)).trans ((Qg (by simp)).trans (Qd rfl));have u0k:w3.cell? ⟨wo.heap.size,0,none⟩=some (.slice A6 x.path.length c6):=Qa (i:=0) g3;have u1k:w3.cell? ⟨wo.heap.size,1,none⟩=some (.int .i64 x.act):=Qa (i:=1) g3;have u2k:w3.cell? ⟨wo.heap.size,2,none⟩=some (.string x.s):=Qa (i:=2) g3;have u3k:w3.cell? ⟨wo.heap.size,3,none⟩=some (.int .i64 x.n):=Qa (i:=3) g3;have z0:=Qb (i:=0) g3;have HG3:=hid g3;have HO3:=hid hown1;have HB1:=hid hb1;have hs3:=hb1.size;simp only[World.size_alloc]at hs3;clear g3 hown1 hb1))
     obtain⟨wd,hwd⟩:∃ z,z=w3.setCell ⟨wo.heap.size,0,none⟩ (.slice A7 x.path.length c7):=⟨_,rfl⟩
     have hgd:wd.heap[wo.heap.size]?=some (.cells #[.slice A7 x.path.length c7,.int .i64 x.act,.string x.s,.int .i64 x.n] 65 (0,0)):=by rw[hwd];simpa using Qe (i:=0) HG3.out (.slice A7 x.path.length c7)
     have hrow:OwnP wd (wo.heap.size+1) 9 1 StE (.slice A7 x.path.length c7) x.path:=by rw[hwd];exact OwnP.setOther HO3.out (by show wo.heap.size<_;omega) _
     have hbd:Below wo.heap.size wo wd:=by rw[hwd];exact (HBY.out.trans (HB1.out.mono (by omega))).setCell (Nat.le_refl _) _
     have hsd:wo.heap.size+2<=wd.heap.size:=by rw[hwd];simp[World.setCell];omega
     rw[←hwd]
     clear hwd u0k u1k u2k u3k z0 hs3 e0 e1 e2 e3 HZR HPA
     have hOd:=HOW.out.grow hbd
     have hTd:TxB wd g okp v vo (t,tc) N O:=hOd.tx
     have hgl:g<wo.heap.size:=HOW.out.tx.lt
     have hql:q<wo.heap.size:=lt_of_block HOW.out.bx
     have hvl:=HOW.out.vlt
     have hBg:w.heap.size+1<=g:=HOW.out.Bg
     have hBq:w.heap.size+1<=q:=HOW.out.Bq
     have hgq:g≠q:=HOW.out.gq
     have hPA2:SlA wd (fun b=>b≠g/\b<wd.heap.size/\vo.ownBlock≠some b) 1 StE (.slice A7 x.path.length c7) x.path:=(hrow.sla (by unfold Big;omega)).up (fun _ _=>rfl) (fun b' hb'=>⟨by have:=hb'.1;omega,hb'.2.1,fun e=>by have:=hvl b' e;have:=hb'.1;omega⟩) fun _ _ _ h=>h
     obtain⟨p0,poff,hp0,hp1,hPT⟩:=PtS.row (PtS.of (hrow.slu (by unfold Big;omega))) (lo:=wo.heap.size+1) (d:=wo.heap.size+1) (fun b hb=>⟨hb.1,hb.2.1⟩) ⟨Nat.le_refl _,by omega⟩
     have HDO:=hid (qY5 x _ _ hTd hI.1 (by omega) (by omega) hIl hPA2 HOX.out HPL.out)
     have HOD:=hid hOd
     have HGD:=hid hgd
     have HPT:=hid hPT
     have HBD:=hid hbd
     have y0:wd.cell? ⟨wo.heap.size,0,none⟩=some (.slice A7 x.path.length c7):=Qa (i:=0) hgd
     have y1:wd.cell? ⟨wo.heap.size,1,none⟩=some (.int .i64 x.act):=Qa (i:=1) hgd
     have y2:wd.cell? ⟨wo.heap.size,2,none⟩=some (.string x.s):=Qa (i:=2) hgd
     have y3:wd.cell? ⟨wo.heap.size,3,none⟩=some (.int .i64 x.n):=Qa (i:=3) hgd
     clear hOd hgd hrow hbd hTd hPA2 hPT HG3 HO3 HB1 HBY
     (try go_wp2_with fail)
     refine HDO.out.mono ?_
     rintro e w4 hD
     have hret:=hD.ret
     subst hret
     obtain⟨okp4,v4,vo4,hO4'⟩:=HOD.out.did hD
     have hO4:OwI (w.heap.size+1) g q (t,tc) (.slice A0 t.es.length n0) (.slice B0 t.ks.length m0) (.slice D0 tc.length k0) (doO N O x,doK N O.length x) (O,N) (fun b=>cl b∨(wd.heap.size<=b/\b<w4.heap.size)) okp4 v4 vo4 vr ne nk nc w4:=hO4'
     have hs4:=hD.below.size
     have hvn:∀ b,wo.heap.size<=b->vo.ownBlock≠some b:=fun b hb e=>by have:=hvl b e;omega
     have hg4:=(hD.keep wo.heap.size (by omega) (by omega) (hvn _ (Nat.le_refl _))).trans HGD.out
     have hp4:=hD.keep p0 hp1 (by omega) (hvn _ (by omega))
     have hB4:Below (w.heap.size+1) (w.alloc (.cells #[.slice A0 t.es.length n0,.slice B0 t.ks.length m0,.slice D0 tc.length k0] 29)) w4:=(HBW.out.trans (HBD.out.mono (by omega))).trans (hD.below.mono hBg)
     have HG4:=hid hg4
     have HP4:=hid hp4
     have HB4:=hid hB4
     clear hO4' hD hg4 hp4 hB4 y0 y1 y2 y3
     obtain⟨An,nn,Bn,mn,e4,e5⟩:=Ql hO4.rn
     subst e4;subst e5
     obtain⟨Cn,kn,e6⟩:=hO4.rc.shape
     subst e6
     obtain⟨Ao,no,e7⟩:=OwnP.shape hO4.ro
     subst e7
     have HO4:=hid hO4
     have hBle:w.heap.size+1<=w4.heap.size:=by omega
     have HSL:Hid (∀ W,Below (w.heap.size+1) (w.alloc (.cells #[.slice A0 t.es.length n0,.slice B0 t.ks.length m0,.slice D0 tc.length k0] 29)) W->(W.cell? ⟨b,off+k*4,none⟩=some (.slice A6 x.path.length c6)/\W.cell? ⟨b,off+k*4+1,none⟩=some (.int .i64 x.act)/\W.cell? ⟨b,off+k*4+2,none⟩=some (.string x.s)/\W.cell? ⟨b,off+k*4+3,none⟩=some (.int .i64 x.n))):=fun W hW=>HU.out W ((HWB.out W hW).block b hbB)
     have hq4:=hO4.bx
     obtain⟨j0,j1,j2,j3,j4,j5,j6⟩:=bx7 hq4
     have HRN:Hid (N.1.rd w4.drew w4.drew.heap.size (.slice An N.1.es.length nn) (.slice Bn N.1.ks.length mn)):=Zx hO4.rn (fun b hb=>hO4.hi b hb.1) ((Below.refl _ _).drew)
     have HRC:Hid (SlP w4.drew w4.drew.heap.size 3 SpE (.slice Cn N.2.length kn) N.2):=hO4.rc.slp (fun b hb=>hO4.hi b hb.1) ((Below.refl _ _).drew)
     have HRO:Hid (OwnD w4.drew (w.heap.size+1) 65 4 OpA (fun b=>b<w.heap.size+1) (.slice Ao O.length no) O):=OwnD.drew hO4.ro OpA.mon
     have HPX4:Hid (SlP w4.drew (w.heap.size+1) 1 StE (.slice A6 x.path.length c6) x.path):=HPX.out.imp (HWB.out _ HB4.out.drew) (by omega) fun _ _ _ h=>h
     have hbq:b≠q:=by omega
     clear hq4 hO4
     go_upto_region 15 with (fail)
     refine wp_region_held_drew (S:=fun W=>(W.cell? ⟨b,off+k*4,none⟩=some (.slice A6 x.path.length c6)/\W.cell? ⟨b,off+k*4+1,none⟩=some (.int .i64 x.act)/\W.cell? ⟨b,off+k*4+2,none⟩=some (.string x.s)/\W.cell? ⟨b,off+k*4+3,none⟩=some (.int .i64 x.n))) (by kernel_rfl) ?_ (fun hHeld=>?_)
     ·exact HSL.out _ HB4.out.drew
     refine wpAnyH_take (i:=1) (oi:=_) (v:=?v1) rfl (by kernel_rfl) (by kernel_rfl) (by kernel_rfl) (fun _ _ _ h=>h) (Or.inl ⟨by rfl,?h1⟩) (by assumption) ?_
     case h1=>(intro w hSw;(try dsimp only at hSw);go_simp;(try with_reducible rfl))
     simp only[Act.put,List.setIfInBounds_toArray,List.set_cons_zero,List.set_cons_succ,List.getElem_toArray,List.getElem_cons_zero,List.getElem_cons_succ]
     refine wpAnyH_take (i:=2) (oi:=_) (v:=?v2) rfl (by kernel_rfl) (by kernel_rfl) (by kernel_rfl) (fun _ _ _ h=>h) (Or.inl ⟨by rfl,?h2⟩) (by assumption) ?_
     case h2=>(intro w hSw;(try dsimp only at hSw);go_simp;(try with_reducible rfl))
     simp only[Act.put,List.setIfInBounds_toArray,List.set_cons_zero,List.set_cons_succ,List.getElem_toArray,List.getElem_cons_zero,List.getElem_cons_succ]
     refine wpAnyH_take (i:=3) (oi:=_) (v:=?v3) rfl (by kernel_rfl) (by kernel_rfl) (by kernel_rfl) (fun _ _ _ h=>h) (Or.inl ⟨by rfl,?h3⟩) (by assumption) ?_
     case h3=>(intro w hSw;(try dsimp only at hSw);go_simp;(try with_reducible rfl))
     simp only[Act.put,List.setIfInBounds_toArray,List.set_cons_zero,List.set_cons_succ,List.getElem_toArray,List.getElem_cons_zero,List.getElem_cons_succ]
     refine wpAnyH_take (i:=4) (oi:=_) (v:=?v4) rfl (by kernel_rfl) (by kernel_rfl) (by kernel_rfl) (fun _ _ _ h=>h) (Or.inl ⟨by rfl,?h4⟩) (by assumption) ?_
     case h4=>(intro w hSw;(try dsimp only at hSw);go_simp;(try with_reducible rfl))
     simp only[Act.put,List.setIfInBounds_toArray,List.set_cons_zero,List.set_cons_succ,List.getElem_toArray,List.getElem_cons_zero,List.getElem_cons_succ]
     refine wpAnyH_ready (rs:=[0]) (by kernel_rfl) (by simp) ?_
     refine AllReadyH.cons (o:=_) rfl (fun K hK=>?_) AllReadyH.nil
     go_simp
     refine hK.out _ _ ?_ (fun hHeld0=>?_)
     ·exact HSL.out _ HB4.out.drew
     clear hK K
     try simp only[Act.put,List.setIfInBounds_toArray,List.set_cons_zero,List.set_cons_succ,List.getElem_toArray,List.getElem_cons_zero,List.getElem_cons_succ]
     refine wpAnyH_ready (rs:=[5]) (by kernel_rfl) (by simp) ?_
     refine AllReadyH.cons (o:=_) rfl (fun K hK=>?_) AllReadyH.nil
     (go_simp;refine (qUm x _ _ _ _ _ _ _ _ _ _ _ _ _ _ _ _ _ rfl rfl rfl _ HRN.out HRC.out HRO.out hBle hI.1 (by omega) (by omega) hIl HPX4.out HOX.out HPL.out).mono ?_;rintro e w5 hR;obtain⟨vr5,ne5,nk5,nc5,rfl,hN5,hC5,hO5,hV5,hb5⟩:=HO4.out.rdo hR hBle;obtain⟨A8,n8,B8,m8,f4,f5⟩:=Ql hN5;subst f4;subst f5;obtain⟨C8,k8,f6⟩:=hC5.shape;subst f6;obtain⟨O8,r8,f7⟩:=OwnP.shape hO5;subst f7;have HN5:=hid hN5;have HC5:=hid hC5;have HO5:=hid hO5;have HV5:=hid hV5;have HB5:=hid hb5;have hs5:=hb5.size;have HQ5:=hid (HO4.out.grow hb5).bx;have u0k:=Qa (i:=0) HQ5.out;have u1k:=Qa (i:=1) HQ5.out;have u2k:=Qa (i:=2) HQ5.out;have u3k:=Qa (i:=3) HQ5.out;have u4k:=Qa (i:=4) HQ5.out;have u5k:=Qa (i:=5) HQ5.out;have u6k:=Qa (i:=6) HQ5.out;simp only[List.getElem?_toArray,List.getElem?_cons_zero,List.getElem?_cons_succ]at u0k u1k u2k u3k u4k u5k u6k;have z0:=Qb (i:=0) HQ5.out;have z1:=Qb (i:=1) HQ5.out;have z2:=Qb (i:=2) HQ5.out;have z3:=Qb (i:=3) HQ5.out;have z4:=Qb (i:=4) HQ5.out;have z5:=Qb (i:=5) HQ5.out;have z6:=Qb (i:=6) HQ5.out;clear hN5 hC5 hO5 hV5 hb5 hR)
     refine hK.out _ _ ?_ (fun hHeld5=>?_)
     ·exact HSL.out _ (HB4.out.trans (HB5.out.mono hBle))
     clear hK K
     try simp only[Act.put,List.setIfInBounds_toArray,List.set_cons_zero,List.set_cons_succ,List.getElem_toArray,List.getElem_cons_zero,List.getElem_cons_succ]
     refine wpAnyH_take (i:=6) (oi:=_) (v:=?v6) rfl (by kernel_rfl) (by kernel_rfl) (by kernel_rfl) (fun _ _ _ h=>h) (Or.inl ⟨by rfl,?h6⟩) (by assumption) ?_
     case h6=>(intro w hSw;(try dsimp only at hSw);go_simp;(try with_reducible rfl))
     simp only[Act.put,List.setIfInBounds_toArray,List.set_cons_zero,List.set_cons_succ,List.getElem_toArray,List.getElem_cons_zero,List.getElem_cons_succ]
     refine wpAnyH_take (i:=7) (oi:=_) (v:=?v7) rfl (by kernel_rfl) (by kernel_rfl) (by kernel_rfl) (fun _ _ _ h=>h) (Or.inl ⟨by rfl,?h7⟩) (by assumption) ?_
     case h7=>(intro w hSw;(try dsimp only at hSw);go_simp;(try with_reducible rfl))
     simp only[Act.put,List.setIfInBounds_toArray,List.set_cons_zero,List.set_cons_succ,List.getElem_toArray,List.getElem_cons_zero,List.getElem_cons_succ]
     refine wpAnyH_take (i:=8) (oi:=_) (v:=?v8) rfl (by kernel_rfl) (by kernel_rfl) (by kernel_rfl) (fun _ _ _ h=>h) (Or.inl ⟨by rfl,?h8⟩) (by assumption) ?_
     case h8=>(intro w hSw;(try dsimp only at hSw);go_simp;(try with_reducible rfl))
     simp only[Act.put,List.setIfInBounds_toArray,List.set_cons_zero,List.set_cons_succ,List.getElem_toArray,List.getElem_cons_zero,List.getElem_cons_succ]
     have HB6:Hid (∀ a0 a1 a2 a3 a4 a5 a6:Value,Below (w.heap.size+1) (w.alloc (.cells #[.slice A0 t.es.length n0,.slice B0 t.ks.length m0,.slice D0 tc.length k0] 29)) ((((((((w5.setCell ⟨q,0,none⟩ a0).setCell ⟨q,1,none⟩ a1).setCell ⟨q,2,none⟩ a2).setCell ⟨q,3,none⟩ a3).setCell ⟨q,4,none⟩ a4).setCell ⟨q,5,none⟩ a5).setCell ⟨q,6,none⟩ a6))):=fun a0 a1 a2 a3 a4 a5 a6=>(box7 HQ5.out a0 a1 a2 a3 a4 a5 a6).2.2.2 _ _ hBq (HB4.out.trans (HB5.out.mono hBle))
     refine wpAnyH_ready (rs:=[9]) (by kernel_rfl) (by simp) ?_
     refine AllReadyH.cons (o:=_) rfl (fun K hK=>?_) AllReadyH.nil
     go_simp
     refine hK.out _ _ ?_ (fun hHeld9=>?_)
     ·exact HSL.out _ (HB6.out _ _ _ _ _ _ _)
     clear hK K
     try simp only[Act.put,List.setIfInBounds_toArray,List.set_cons_zero,List.set_cons_succ,List.getElem_toArray,List.getElem_cons_zero,List.getElem_cons_succ]
     refine wpAnyH_done (by kernel_rfl) ?_ _
     obtain⟨w6,hw6⟩:∃ z,z=((((((((w5.setCell ⟨q,0,none⟩ (.slice A0 t.es.length n0)).setCell ⟨q,1,none⟩ (.slice B0 t.ks.length m0)).setCell ⟨q,2,none⟩ (.slice D0 tc.length k0)).setCell ⟨q,3,none⟩ (.slice O8 (doO N O x).length r8)).setCell ⟨q,4,none⟩ (.slice A8 (doK N O.length x).1.es.length n8)).setCell ⟨q,5,none⟩ (.slice B8 (doK N O.length x).1.ks.length m8)).setCell ⟨q,6,none⟩ (.slice C8 (doK N O.length x).2.length k8))):=⟨_,rfl⟩
     have hX7:=box7 HQ5.out (.slice A0 t.es.length n0) (.slice B0 t.ks.length m0) (.slice D0 tc.length k0) (.slice O8 (doO N O x).length r8) (.slice A8 (doK N O.length x).1.es.length n8) (.slice B8 (doK N O.length x).1.ks.length m8) (.slice C8 (doK N O.length x).2.length k8)
     have hO6:OwI (w.heap.size+1) g q (t,tc) (.slice A0 t.es.length n0) (.slice B0 t.ks.length m0) (.slice D0 tc.length k0) (doO N O x,doK N O.length x) (doO N O x,doK N O.length x) (fun b=>(cl b∨(wd.heap.size<=b/\b<w4.heap.size))∨(w4.heap.size<=b/\b<w5.heap.size)) okp4 v4 vo4 (.slice O8 (doO N O x).length r8) (.slice A8 (doK N O.length x).1.es.length n8) (.slice B8 (doK N O.length x).1.ks.length m8) (.slice C8 (doK N O.length x).2.length k8) w6:=by rw[hw6];exact HO4.out.ref (T:=(doO N O x,doK N O.length x)) HB5.out HN5.out HC5.out HO5.out HV5.out
     have hB6:Below (w.heap.size+1) (w.alloc (.cells #[.slice A0 t.es.length n0,.slice B0 t.ks.length m0,.slice D0 tc.length k0] 29)) w6:=by rw[hw6];exact HB6.out _ _ _ _ _ _ _
     have hs6:w6.heap.size=w5.heap.size:=by rw[hw6];exact hX7.2.2.1
     have hk6:∀ b',b'<w4.heap.size->b'≠q->w6.heap[b']?=w4.heap[b']?:=fun b' h1 h2=>by rw[hw6];exact (hX7.2.1 b' h2).trans (HB5.out.block b' h1)
     rw[←hw6]
     clear hw6 hX7 u0k u1k u2k u3k u4k u5k u6k z0 z1 z2 z3 z4 z5 z6 j0 j1 j2 j3 j4 j5 j6 HB6 HN5 HC5 HO5 HV5 HQ5 HB5 HO4
     have hg6:=(hk6 wo.heap.size (by omega) (by omega)).trans HG4.out
     have hp6:w6.heap[p0]?=wd.heap[p0]?:=(hk6 p0 (by omega) (by omega)).trans HP4.out
     have hPT6:x.path.length≠0->UFb w6 p0/\Plain w6 p0 poff x.path.length:=fun hn=>⟨(HPT.out hn).2.1.up hp6,(HPT.out hn).2.2.same hp6⟩
     have HG6:=hid hg6
     have HPT6:=hid hPT6
     have HB6:=hid hB6
     obtain⟨⟨O2,N2⟩,HS2⟩:∃ S,Hid ((doO N O x,doK N O.length x)=S):=⟨_,rfl⟩
     have HO6':=hid hO6
     rw[HS2.out]at HO6'
     have HTK2:Hid (txS (t,tc) (l.take (k+1))=(O2,N2)):=HTK.out.trans HS2.out
     have c0:w6.cell? ⟨wo.heap.size,0,none⟩=some (.slice A7 x.path.length c7):=Qa (i:=0) hg6
     have hr6:wo.heap.size<w6.heap.size:=by omega
     have hrp:wo.heap.size≠p0:=by omega
     have hcl:∀ b',((cl b'∨(wd.heap.size<=b'/\b'<w4.heap.size))∨(w4.heap.size<=b'/\b'<w5.heap.size))->b'≠p0:=fun b' h=>by
      rcases h with (h|h)|h
      ·have:=HOW.out.hi b' h;omega
      ·omega
      ·omega
     have HCL:=hid hcl
     clear hg6 hp6 hPT6 hB6 hO6 hk6 hcl
     go_wp2_with fail
     go_loopw [75] (fun i wr=>∃ j:Nat,j<=x.path.length/\i=.int .i64 j/\RowW w6 wr p0/\Hid (x.path.length≠0->UFb wr p0/\Plain wr p0 poff x.path.length)) (fun i _=>x.path.length-(intOf i).toNat)
     case atStart=>exact⟨0,Nat.zero_le _,rfl,RowW.refl _ _,HPT6⟩
     case round=>
      obtain⟨j,hj,rfl,hRW,hPW⟩:=hrel
      clear c0
      have hsw:=hRW.size
      have c0:wr.cell? ⟨wo.heap.size,0,none⟩=some (.slice A7 x.path.length c7):=(World.cell?_of_block (hRW.keep _ hrp)).trans (Qa (i:=0) HG6.out)
      have HRW:=hid hRW
      clear hRW
      by_cases hltj:j<x.path.length
      ·have hji:(j:Int)<(x.path.length:Int):=by omega
       have hne:x.path.length≠0:=by omega
       obtain⟨hA7,_,_⟩:=HPT.out hne
       subst hA7
       obtain⟨hub,hpl⟩:=hPW.out hne
       obtain⟨u,hu1,hu2⟩:=hpl j hltj
       have hf:=hub (poff+j)
       have hpw:p0<wr.heap.size:=by omega
       have HUB:=hid hub
       have HPLN:=hid hpl
       clear hub hpl hPW
       go_wp2_with fail
       go_roundw
       case rel=>exact⟨j+1,by omega,by go_num,HRW.out.put _ _,fun _=>⟨HUB.out.set _ _,HPLN.out.put hpw hltj rfl⟩⟩
       case measure=>simp[intOf];omega
      ·have hji:¬(j:Int)<(x.path.length:Int):=by omega
       obtain⟨w7,rfl⟩:∃ w7:World,w7=wr:=⟨_,rfl⟩
       have hO7:=HO6'.out.keep (fun b' hb'=>HRW.out.keep b' (HCL.out b' hb')) (Nat.le_of_eq HRW.out.size.symm)
       have hB7:=HB6.out.trans (HRW.out.below.mono (show w.heap.size+1<=p0 by omega))
       have HO7:=hid hO7
       have HB7:=hid hB7
       have hT7:TxB w7 g okp4 v4 vo4 (t,tc) N2 O2:=hO7.tx
       have hIl2:=(qXd (t,tc) (l.take (k+1))).len
       rw[HTK2.out]at hIl2
       simp only at hIl2
       have hpth:∀ y∈O2,y.path.length<=1000:=fun y hy=>by
        have h1:=qUn (t,tc) (l.take (k+1)) y (by rw[HTK2.out];exact hy)
        have h:=HSH.out y (List.mem_of_mem_take h1)
        unfold Q9 at h
        simp only[Bool.and_eq_true,decide_eq_true_eq]at h
        omega
       have HOPS:=hid (Vh hT7 (by omega) fun y hy=>by have:=hpth y hy;omega)
       have HPTH:=hid hpth
       clear hO7 hB7 hT7 hpth hPW c0
       go_wp2_with fail
       refine HOPS.out.mono ?_
       rintro e w8 ⟨vm,rfl,hm,hb8⟩
       have hOS:=OpS.of hm (by unfold Big;omega)
       obtain⟨Am,nm,hvm,_,_⟩:=id hOS
       subst hvm
       have HM:=hid hOS
       have HB8:=hid hb8
       have hs8:=hb8.size
       clear hOS hm hb8
       go_wp2_with fail
       go_loopw [87] (fun i wr=>∃ i':Nat,i'<=O2.length/\i=.int .i64 i'/\Scr w7.heap.size w8 wr) (fun i _=>O2.length-(intOf i).toNat)
       case atStart=>exact⟨0,Nat.zero_le _,rfl,Scr.refl _ _⟩
       case round=>
        obtain⟨i',hi',rfl,hSm⟩:=hrel
        have HSM2:=hid hSm
        have hszm:=hSm.below.size
        clear hSm
        by_cases hlti:i'<O2.length
        ·have hii:(i':Int)<(O2.length:Int):=by omega
         obtain⟨y,hy⟩:∃ y,O2[i']?=some y:=⟨_,List.getElem?_eq_getElem hlti⟩
         have HYP:=hid (HPTH.out y (List.mem_of_getElem? hy))
         have hyp:=HYP.out
         obtain⟨A',c',hv',_,hall⟩:=HM.out.scr HSM2.out (fun b hb=>hb.2)
         simp only[Value.slice.injEq]at hv'
         obtain⟨rfl,_,rfl⟩:=hv'
         obtain⟨bm,om,Dm,mm,rfl,hbm,hc1,hpt⟩:=hall i' y hy
         have HY:=hid hy
         clear hall hpt hy
         go_wp2_with fail
         go_loopw [96] (fun i wr=>∃ j:Nat,j<=y.path.length/\i=.int .i64 j/\Scr w7.heap.size w8 wr) (fun i _=>y.path.length-(intOf i).toNat)
         case atStart=>exact⟨0,Nat.zero_le _,rfl,HSM2.out⟩
         case round=>
          obtain⟨j,hj,rfl,hSj⟩:=hrel
          have HSJ:=hid hSj
          have hszj:=hSj.below.size
          obtain⟨A',c',hv',_,hall⟩:=HM.out.scr HSJ.out (fun b hb=>hb.2)
          simp only[Value.slice.injEq]at hv'
          obtain⟨rfl,_,rfl⟩:=hv'
          obtain⟨bm',om',Dm',mm',hA',hbm',hc2,hpt⟩:=hall i' y HY.out
          cases hA'
          obtain⟨Ap,cp,hvp,_,hbig,hrw⟩:=hpt
          simp only[Value.slice.injEq]at hvp
          obtain⟨rfl,_,rfl⟩:=hvp
          clear hall hSj hbig
          by_cases hltj:j<y.path.length
          ·have hji:(j:Int)<(y.path.length:Int):=by omega
           obtain⟨bp,op,rfl,hob,hub,hpl⟩:=hrw (by omega)
           obtain⟨u,hu1,hu2⟩:=hpl j hltj
           have hf:=hub (op+j)
           have HPLN:=hid hpl
           have hob1:=hob.1
           have hob2:=hob.2
           clear hub hpl hrw hob
           go_wp2_with fail
           go_roundw
           case rel=>
            refine⟨j+1,by omega,by go_num,?_⟩
            have hsp:=Scr.text (i:=j) HSJ.out HPLN.out hob1 (by omega) hltj ⟨#[109]⟩
            with_reducible exact hsp
           case measure=>simp[intOf];omega
          ·have hji:¬(j:Int)<(y.path.length:Int):=by omega
           clear hrw hc2
           go_wp2_with fail
           go_roundw
           case rel=>exact⟨i'+1,by omega,by go_num,HSJ.out⟩
           case measure=>simp[intOf];omega
        ·have hii:¬(i':Int)<(O2.length:Int):=by omega
         obtain⟨w9,rfl⟩:∃ w9:World,w9=wr:=⟨_,rfl⟩
         have hB79:Below w7.heap.size w7 w9:=HB8.out.trans HSM2.out.below
         have hO9:=HO7.out.grow hB79
         have hT9:TxB w9 g okp4 v4 vo4 (t,tc) N2 O2:=hO9.tx
         have HGR:=hid (XS hT9 HCR.out (by show t.sz<=_;omega) (by show tc.length<=_;omega))
         have HB79:=hid hB79
         have hs9:=hB79.size
         clear hO9 hT9 hB79
         go_wp2_with fail
         refine HGR.out.mono ?_
         rintro e w10 ⟨xe,xk,xc,rfl,hrdx,hslx,hb10⟩
         (try simp only at hrdx)
         (try simp only at hslx)
         obtain⟨Ax,nx,Bx,mx,f1,f2⟩:=QY hrdx
         subst f1;subst f2
         obtain⟨Cx,kx,f3⟩:=SlU.shape hslx
         subst f3
         have hs10:=hb10.size
         have HB10:=hid hb10
         have HSC:=hid (qQ7 t w10 _ _ w9.heap.size (fun b=>w9.heap.size<=b/\b<w10.heap.size) hs10 (fun b hb=>hb) (qZn _ _ _ hrdx))
         have hfld:∀ W,(Instr.field 29 (.agg #[.slice Ax t.es.length nx,.slice Bx t.ks.length mx,.slice Cx tc.length kx]) 0).run Tryz.prog W=.ok (.agg #[.slice Ax t.es.length nx,.slice Bx t.ks.length mx]) W:=fun _=>rfl
         clear hrdx hslx hb10
         go_wp2_with fail
         refine HSC.out.mono ?_
         rintro e w11 ⟨rfl,hS11⟩
         have HS11:=hid hS11
         clear hS11 hfld
         go_wp2_with fail
         go_roundw
         case rel=>
          have hB711:Below w7.heap.size w7 w11:=HB79.out.trans ((HB10.out.trans HS11.out.below).mono hs9)
          refine⟨k+1,by omega,by go_num,?_,HB7.out.trans (hB711.mono (by omega))⟩
          rw[HTK2.out]
          have hFIN:=HO7.out.grow hB711
          exact⟨_,_,_,_,_,_,_,_,hFIN⟩
         case measure=>simp[intOf];omega
    ·skip
     obtain⟨we,rfl⟩:∃ we:World,we=wr:=⟨_,rfl⟩
     have hki:¬(k:Int)<(l.length:Int):=by omega
     have hke:k=l.length:=by omega
     subst hke
     have hT:TxB we g okp v vo (t,tc) N O:=HOW.out.tx
     have hro:OwnD we (w.heap.size+1) 65 4 OpA (fun b=>b<w.heap.size+1) vr O:=HOW.out.ro
     obtain⟨Ao,no,e7⟩:=OwnP.shape hro
     subst e7
     have HRO:=hid (OwnD.opl hro (by unfold Big;omega))
     clear hro
     have HTX:=hid hT
     have hgl:=hT.lt
     have HQB:=hid HOW.out.bx
     have hql:=lt_of_block HQB.out
     have HOP:Hid (∀ o∈O,o.path.length<=1000):=fun o ho=>by
      have h:=HSH.out o (List.mem_of_mem_take (HMEM.out o ho))
      unfold Q9 at h
      simp only[Bool.and_eq_true,decide_eq_true_eq]at h
      omega
     clear hT
     obtain⟨hW0,hB,hs,rt0,rc0,ro1,c00,c01,c02⟩:=HX1.out _ HBW.out
     clear hW0 hB hs rt0 rc0 ro1 c00 c01 c02
     have HX3:Hid (∀ W,Below (we).heap.size we W->((we).heap.size<=(W).heap.size/\TxB W g okp v vo (t,tc) N O/\(W).cell? ⟨q,3,none⟩=some (.slice Ao O.length no)/\OpL W (.slice Ao O.length no) O/\Below (w.heap.size+1) (w.alloc (.cells #[.slice A0 t.es.length n0,.slice B0 t.ks.length m0,.slice D0 tc.length k0] 29)) W/\Below w.heap.size w W/\w.heap.size+1<=(W).heap.size/\t.rd W (W).heap.size (.slice A0 t.es.length n0) (.slice B0 t.ks.length m0)/\SlP W (W).heap.size 3 SpE (.slice D0 tc.length k0) tc/\OpL W (.slice A1 l.length n1) l/\(W).cell? ⟨w.heap.size,0,none⟩=some (.slice A0 t.es.length n0)/\(W).cell? ⟨w.heap.size,1,none⟩=some (.slice B0 t.ks.length m0)/\(W).cell? ⟨w.heap.size,2,none⟩=some (.slice D0 tc.length k0))):=fun W hW=>
      ⟨hW.size,HTX.out.grow hW,Qa (i:=3) ((hW.block q hql).trans HQB.out),HRO.out.up hW,HX1.out W (HBW.out.trans (hW.mono (by have:=Below.size HBW.out;first|omega|(simp at this ⊢;omega))))⟩
     obtain⟨hs_b3,rx_t,c3_q,ro_n,hW0,hB,hs,rt0,rc0,ro1,c00,c01,c02⟩:=HX3.out _ (Below.refl _ _)
     go_wp2_with fail
     refine (Vh rx_t (by omega) (fun x hx=>by have:=HOP.out x hx;omega)).mono ?_
     rintro e w7 ⟨vq,rfl,hoq,hb⟩
     obtain⟨Aq,nq,hvq⟩:=OwnP.shape hoq
     subst hvq
     have HQ:=hid (OwnD.opl (OwnP.imp hoq fun _ _ _ hx=>OpU.dn hx) (by unfold Big;omega))
     clear hoq
     have hbk7:Hid (Below (we).heap.size we w7):=hid (hb.mono (by first|omega|(simp;done)|(simp;omega)))
     clear hb
     clear hs_b3 rx_t c3_q ro_n hW0 hB hs rt0 rc0 ro1 c00 c01 c02
     obtain⟨hs_b3,rx_t,c3_q,ro_n,hW0,hB,hs,rt0,rc0,ro1,c00,c01,c02⟩:=HX3.out _ hbk7.out
     clear hs_b3 rx_t c3_q ro_n hW0 hB hs rt0 rc0 ro1 c00 c01 c02
     have HX4:Hid (∀ W,Below (w7).heap.size w7 W->((w7).heap.size<=(W).heap.size/\OpL W (.slice Aq O.length nq) O/\(we).heap.size<=(W).heap.size/\TxB W g okp v vo (t,tc) N O/\(W).cell? ⟨q,3,none⟩=some (.slice Ao O.length no)/\OpL W (.slice Ao O.length no) O/\Below (w.heap.size+1) (w.alloc (.cells #[.slice A0 t.es.length n0,.slice B0 t.ks.length m0,.slice D0 tc.length k0] 29)) W/\Below w.heap.size w W/\w.heap.size+1<=(W).heap.size/\t.rd W (W).heap.size (.slice A0 t.es.length n0) (.slice B0 t.ks.length m0)/\SlP W (W).heap.size 3 SpE (.slice D0 tc.length k0) tc/\OpL W (.slice A1 l.length n1) l/\(W).cell? ⟨w.heap.size,0,none⟩=some (.slice A0 t.es.length n0)/\(W).cell? ⟨w.heap.size,1,none⟩=some (.slice B0 t.ks.length m0)/\(W).cell? ⟨w.heap.size,2,none⟩=some (.slice D0 tc.length k0))):=fun W hW=>
      ⟨hW.size,HQ.out.up hW,HX3.out W (hbk7.out.trans (hW.mono (by have:=Below.size hbk7.out;first|omega|(simp at this ⊢;omega))))⟩
     obtain⟨hs_b4,ro_q,hs_b3,rx_t,c3_q,ro_n,hW0,hB,hs,rt0,rc0,ro1,c00,c01,c02⟩:=HX4.out _ (Below.refl _ _)
     go_wp2_with fail
     have HLB:Hid (Below (w7).heap.size w7 w7):=hid (Below.refl _ _)
     clear hs_b4 ro_q hs_b3 rx_t c3_q ro_n hW0 hB hs rt0 rc0 ro1 c00 c01 c02
     go_loopw [117] (fun i wr=>∃ k:Nat,k<=O.length/\i=.int .i64 k/\Below (w7).heap.size w7 wr) (fun i _=>O.length-(intOf i).toNat)
     case atStart=>exact⟨0,by omega,rfl,HLB.out⟩
     case round=>
      obtain⟨k,hk,rfl,hbr⟩:=hrel
      have HBR:=hid hbr
      clear hbr
      obtain⟨hs_b4,ro_q,hs_b3,rx_t,c3_q,ro_n,hW0,hB,hs,rt0,rc0,ro1,c00,c01,c02⟩:=HX4.out _ HBR.out
      by_cases hlt:k<O.length
      ·skip
       have hki:(k:Int)<(O.length:Int):=by omega
       have hkj:¬(O.length:Int)<=(k:Int):=by omega
       have hkd:decide ((O.length:Int)<=(k:Int))=false:=by simp;omega
       obtain⟨x,hx⟩:∃ x,O[k]?=some x:=⟨_,List.getElem?_eq_getElem hlt⟩
       obtain⟨b1,o1,A1x,c1x,hA1,hb1,hp1,_,hu1⟩:=OpL.at ro_q hx
       subst hA1
       obtain⟨b2,o2,A2x,c2x,hA2,hb2,hp2,_,hu2⟩:=OpL.at ro_n hx
       subst hA2
       have HU1:=hid hu1
       have HU2:=hid hu2
       have HP1:=hid hp1
       have HP2:=hid hp2
       clear hu1 hu2 hp1 hp2 hx
       clear hs_b4 ro_q hs_b3 rx_t c3_q ro_n hW0 hB hs rt0 rc0 ro1 c00 c01 c02
       have HX5:Hid (∀ W,Below (wr).heap.size wr W->((wr).heap.size<=(W).heap.size/\SlP W (W).heap.size 1 StE (.slice A1x x.path.length c1x) x.path/\SlP W (W).heap.size 1 StE (.slice A2x x.path.length c2x) x.path/\(W).cell? ⟨b1,o1+k*4,none⟩=some (.slice A1x x.path.length c1x)/\(W).cell? ⟨b1,o1+k*4+1,none⟩=some (.int .i64 x.act)/\(W).cell? ⟨b1,o1+k*4+2,none⟩=some (.string x.s)/\(W).cell? ⟨b1,o1+k*4+3,none⟩=some (.int .i64 x.n)/\(W).cell? ⟨b2,o2+k*4,none⟩=some (.slice A2x x.path.length c2x)/\(W).cell? ⟨b2,o2+k*4+1,none⟩=some (.int .i64 x.act)/\(W).cell? ⟨b2,o2+k*4+2,none⟩=some (.string x.s)/\(W).cell? ⟨b2,o2+k*4+3,none⟩=some (.int .i64 x.n)/\(w7).heap.size<=(W).heap.size/\OpL W (.slice (some ⟨b1,o1,none⟩) O.length nq) O/\(we).heap.size<=(W).heap.size/\TxB W g okp v vo (t,tc) N O/\(W).cell? ⟨q,3,none⟩=some (.slice (some ⟨b2,o2,none⟩) O.length no)/\OpL W (.slice (some ⟨b2,o2,none⟩) O.length no) O/\Below (w.heap.size+1) (w.alloc (.cells #[.slice A0 t.es.length n0,.slice B0 t.ks.length m0,.slice D0 tc.length k0] 29)) W/\Below w.heap.size w W/\w.heap.size+1<=(W).heap.size/\t.rd W (W).heap.size (.slice A0 t.es.length n0) (.slice B0 t.ks.length m0)/\SlP W (W).heap.size 3 SpE (.slice D0 tc.length k0) tc/\OpL W (.slice A1 l.length n1) l/\(W).cell? ⟨w.heap.size,0,none⟩=some (.slice A0 t.es.length n0)/\(W).cell? ⟨w.heap.size,1,none⟩=some (.slice B0 t.ks.length m0)/\(W).cell? ⟨w.heap.size,2,none⟩=some (.slice D0 tc.length k0))):=fun W hW=>
        ⟨hW.size,HP1.out.imp hW hW.size (fun _ _ _ h=>h),HP2.out.imp hW hW.size (fun _ _ _ h=>h),(HU1.out W (hW.block _ hb1)).1,(HU1.out W (hW.block _ hb1)).2.1,(HU1.out W (hW.block _ hb1)).2.2.1,(HU1.out W (hW.block _ hb1)).2.2.2,(HU2.out W (hW.block _ hb2)).1,(HU2.out W (hW.block _ hb2)).2.1,(HU2.out W (hW.block _ hb2)).2.2.1,(HU2.out W (hW.block _ hb2)).2.2.2,HX4.out W (HBR.out.trans (hW.mono (by have:=Below.size HBR.out;first|omega|(simp at this ⊢;omega))))⟩
       obtain⟨hs_b5,rl_p1,rl_p2,e0_1,e1_1,e2_1,e3_1,e0_2,e1_2,e2_2,e3_2,hs_b4,ro_q,hs_b3,rx_t,c3_q,ro_n,hW0,hB,hs,rt0,rc0,ro1,c00,c01,c02⟩:=HX5.out _ (Below.refl _ _)
       go_upto_region 37 with (fail)
       have HK1:Hid (∀ W,Below (wr).heap.size wr W->((W).cell? ⟨b1,o1+k*4,none⟩=some (.slice A1x x.path.length c1x)/\(W).cell? ⟨b1,o1+k*4+1,none⟩=some (.int .i64 x.act)/\(W).cell? ⟨b1,o1+k*4+2,none⟩=some (.string x.s)/\(W).cell? ⟨b1,o1+k*4+3,none⟩=some (.int .i64 x.n)/\(W).cell? ⟨b2,o2+k*4,none⟩=some (.slice A2x x.path.length c2x)/\(W).cell? ⟨b2,o2+k*4+1,none⟩=some (.int .i64 x.act)/\(W).cell? ⟨b2,o2+k*4+2,none⟩=some (.string x.s)/\(W).cell? ⟨b2,o2+k*4+3,none⟩=some (.int .i64 x.n)/\(W).cell? ⟨q,3,none⟩=some (.slice (some ⟨b2,o2,none⟩) O.length no))):=fun W hW=>by
        obtain⟨_,_,_,z_e0_1,z_e1_1,z_e2_1,z_e3_1,z_e0_2,z_e1_2,z_e2_2,z_e3_2,_,_,_,_,z_c3_q,_,_,_,_,_,_,_,_,_,_⟩:=HX5.out W hW
        exact⟨z_e0_1,z_e1_1,z_e2_1,z_e3_1,z_e0_2,z_e1_2,z_e2_2,z_e3_2,z_c3_q⟩
       have Hrl_p1_1:Hid (∀ W,Below (wr).heap.size wr W->SlP W (W).heap.size 1 StE (.slice A1x x.path.length c1x) x.path):=fun W hW=>by
        obtain⟨_,z,_,_,_,_,_,_,_,_,_,_,_,_,_,_,_,_,_,_,_,_,_,_,_,_⟩:=HX5.out W hW
        exact z
       have Hrl_p2_1:Hid (∀ W,Below (wr).heap.size wr W->SlP W (W).heap.size 1 StE (.slice A2x x.path.length c2x) x.path):=fun W hW=>by
        obtain⟨_,_,z,_,_,_,_,_,_,_,_,_,_,_,_,_,_,_,_,_,_,_,_,_,_,_⟩:=HX5.out W hW
        exact z
       have Hro_q_1:Hid (∀ W,Below (wr).heap.size wr W->OpL W (.slice (some ⟨b1,o1,none⟩) O.length nq) O):=fun W hW=>by
        obtain⟨_,_,_,_,_,_,_,_,_,_,_,_,z,_,_,_,_,_,_,_,_,_,_,_,_,_⟩:=HX5.out W hW
        exact z
       have Hrx_t_1:Hid (∀ W,Below (wr).heap.size wr W->TxB W g okp v vo (t,tc) N O):=fun W hW=>by
        obtain⟨_,_,_,_,_,_,_,_,_,_,_,_,_,_,z,_,_,_,_,_,_,_,_,_,_,_⟩:=HX5.out W hW
        exact z
       have Hro_n_1:Hid (∀ W,Below (wr).heap.size wr W->OpL W (.slice (some ⟨b2,o2,none⟩) O.length no) O):=fun W hW=>by
        obtain⟨_,_,_,_,_,_,_,_,_,_,_,_,_,_,_,_,z,_,_,_,_,_,_,_,_,_⟩:=HX5.out W hW
        exact z
       have Hrt0_1:Hid (∀ W,Below (wr).heap.size wr W->t.rd W (W).heap.size (.slice A0 t.es.length n0) (.slice B0 t.ks.length m0)):=fun W hW=>by
        obtain⟨_,_,_,_,_,_,_,_,_,_,_,_,_,_,_,_,_,_,_,_,z,_,_,_,_,_⟩:=HX5.out W hW
        exact z
       have Hrc0_1:Hid (∀ W,Below (wr).heap.size wr W->SlP W (W).heap.size 3 SpE (.slice D0 tc.length k0) tc):=fun W hW=>by
        obtain⟨_,_,_,_,_,_,_,_,_,_,_,_,_,_,_,_,_,_,_,_,_,z,_,_,_,_⟩:=HX5.out W hW
        exact z
       have Hro1_1:Hid (∀ W,Below (wr).heap.size wr W->OpL W (.slice A1 l.length n1) l):=fun W hW=>by
        obtain⟨_,_,_,_,_,_,_,_,_,_,_,_,_,_,_,_,_,_,_,_,_,_,z,_,_,_⟩:=HX5.out W hW
        exact z
       have HS_1:Hid (∀ W,Below (wr).heap.size wr W->(wr).heap.size<=W.heap.size):=fun W hW=>by
        have:=hW.size
        first|omega|(simp at this;omega)
       have hsb1:=HS_1.out _ (Below.refl _ _)
       clear rl_p1 rl_p2 ro_q rx_t ro_n hW0 hB rt0 rc0 ro1 c00 c01 c02
       go_region_held3 (fun W=>(W).cell? ⟨b1,o1+k*4,none⟩=some (.slice A1x x.path.length c1x)/\(W).cell? ⟨b1,o1+k*4+1,none⟩=some (.int .i64 x.act)/\(W).cell? ⟨b1,o1+k*4+2,none⟩=some (.string x.s)/\(W).cell? ⟨b1,o1+k*4+3,none⟩=some (.int .i64 x.n)/\(W).cell? ⟨b2,o2+k*4,none⟩=some (.slice A2x x.path.length c2x)/\(W).cell? ⟨b2,o2+k*4+1,none⟩=some (.int .i64 x.act)/\(W).cell? ⟨b2,o2+k*4+2,none⟩=some (.string x.s)/\(W).cell? ⟨b2,o2+k*4+3,none⟩=some (.int .i64 x.n)/\(W).cell? ⟨q,3,none⟩=some (.slice (some ⟨b2,o2,none⟩) O.length no))
        (first|go_keep|exact HK1.out _ hbr8.out|exact HK1.out _ (hbr8.out.trans (by go_grown))|exact HK1.out _ (((hbr8.out.setCell (by first|(simp;done)|(simp;omega)) _).setCell (by first|(simp;done)|(simp;omega)) _).setCell (by first|(simp;done)|(simp;omega)) _)|exact HK1.out _ (by go_grown)|fail)
        (first
         |(go_at_call 26;go_loud ((refine (qKl x _ _ _ (Hrl_p1_1.out _ (by go_grown)) (Hrl_p2_1.out _ (by go_grown))).mono ?_);rintro e w8 ⟨rfl,hb⟩;have hbr8:Hid (Below (wr).heap.size wr w8):=hid (Below.trans (by go_grown) (hb.mono (by first|omega|(simp;done)|(simp;omega))));have hsr8:=HS_1.out _ hbr8.out;clear hb)))
       all_goals (
        clear hs_b5 e0_1 e1_1 e2_1 e3_1 e0_2 e1_2 e2_2 e3_2 hs_b4 hs_b3 c3_q hs
        obtain⟨hs_b5,rl_p1,rl_p2,e0_1,e1_1,e2_1,e3_1,e0_2,e1_2,e2_2,e3_2,hs_b4,ro_q,hs_b3,rx_t,c3_q,ro_n,hW0,hB,hs,rt0,rc0,ro1,c00,c01,c02⟩:=HX5.out _ hbr8.out
        go_wp2_with fail
        have HBN:=hid (HBR.out.trans (hbr8.out.mono (by have:=HBR.out.size;omega)))
        clear hs_b5 rl_p1 rl_p2 e0_1 e1_1 e2_1 e3_1 e0_2 e1_2 e2_2 e3_2 hs_b4 ro_q hs_b3 rx_t c3_q ro_n hW0 hB hs rt0 rc0 ro1 c00 c01 c02
        go_roundw
        case rel=>exact⟨k+1,by omega,by go_num,HBN.out⟩
        case measure=>simp[intOf];omega)
      ·skip
       have hki:¬(k:Int)<(O.length:Int):=by omega
       go_upto_region 40 with (fail)
       have HK1:Hid (∀ W,Below (w7).heap.size w7 W->((W).cell? ⟨q,3,none⟩=some (.slice Ao O.length no)/\(W).cell? ⟨w.heap.size,0,none⟩=some (.slice A0 t.es.length n0)/\(W).cell? ⟨w.heap.size,1,none⟩=some (.slice B0 t.ks.length m0)/\(W).cell? ⟨w.heap.size,2,none⟩=some (.slice D0 tc.length k0))):=fun W hW=>by
        obtain⟨_,_,_,_,z_c3_q,_,_,_,_,_,_,_,z_c00,z_c01,z_c02⟩:=HX4.out W hW
        exact⟨z_c3_q,z_c00,z_c01,z_c02⟩
       have Hro_q_1:Hid (∀ W,Below (w7).heap.size w7 W->OpL W (.slice Aq O.length nq) O):=fun W hW=>by
        obtain⟨_,z,_,_,_,_,_,_,_,_,_,_,_,_,_⟩:=HX4.out W hW
        exact z
       have Hrx_t_1:Hid (∀ W,Below (w7).heap.size w7 W->TxB W g okp v vo (t,tc) N O):=fun W hW=>by
        obtain⟨_,_,_,z,_,_,_,_,_,_,_,_,_,_,_⟩:=HX4.out W hW
        exact z
       have Hro_n_1:Hid (∀ W,Below (w7).heap.size w7 W->OpL W (.slice Ao O.length no) O):=fun W hW=>by
        obtain⟨_,_,_,_,_,z,_,_,_,_,_,_,_,_,_⟩:=HX4.out W hW
        exact z
       have Hrt0_1:Hid (∀ W,Below (w7).heap.size w7 W->t.rd W (W).heap.size (.slice A0 t.es.length n0) (.slice B0 t.ks.length m0)):=fun W hW=>by
        obtain⟨_,_,_,_,_,_,_,_,_,z,_,_,_,_,_⟩:=HX4.out W hW
        exact z
       have Hrc0_1:Hid (∀ W,Below (w7).heap.size w7 W->SlP W (W).heap.size 3 SpE (.slice D0 tc.length k0) tc):=fun W hW=>by
        obtain⟨_,_,_,_,_,_,_,_,_,_,z,_,_,_,_⟩:=HX4.out W hW
        exact z
       have Hro1_1:Hid (∀ W,Below (w7).heap.size w7 W->OpL W (.slice A1 l.length n1) l):=fun W hW=>by
        obtain⟨_,_,_,_,_,_,_,_,_,_,_,z,_,_,_⟩:=HX4.out W hW
        exact z
       have HS_1:Hid (∀ W,Below (w7).heap.size w7 W->(w7).heap.size<=W.heap.size):=fun W hW=>by
        have:=hW.size
        first|omega|(simp at this;omega)
       have hsb1:=HS_1.out _ HBR.out
       clear ro_q rx_t ro_n hW0 hB rt0 rc0 ro1
       go_region_held3 (fun W=>(W).cell? ⟨q,3,none⟩=some (.slice Ao O.length no)/\(W).cell? ⟨w.heap.size,0,none⟩=some (.slice A0 t.es.length n0)/\(W).cell? ⟨w.heap.size,1,none⟩=some (.slice B0 t.ks.length m0)/\(W).cell? ⟨w.heap.size,2,none⟩=some (.slice D0 tc.length k0))
        (first|go_keep|exact HK1.out _ hbr9.out|exact HK1.out _ (hbr9.out.trans (by go_grown))|exact HK1.out _ hbr8.out|exact HK1.out _ (hbr8.out.trans (by go_grown))|exact HK1.out _ (((hbr9.out.setCell (by first|(simp;done)|(simp;omega)) _).setCell (by first|(simp;done)|(simp;omega)) _).setCell (by first|(simp;done)|(simp;omega)) _)|exact HK1.out _ (HBR.out.trans (by go_grown))|fail)
        (first
         |(go_at_call 12;go_loud ((refine (qXh t t tc tc _ _ _ _ _ _ _ (HRg.out _ (by go_grown)) (Hrt0_1.out _ (hbr8.out.trans (by go_grown))) (HLg.out _ (by go_grown)) (Hrc0_1.out _ (hbr8.out.trans (by go_grown)))).mono ?_);rw[qUr];rintro e w9 ⟨rfl,hb⟩;have hbr9:Hid (Below (w7).heap.size w7 w9):=hid (Below.trans (hbr8.out.trans (by go_grown)) (hb.mono (by first|omega|(simp;done)|(simp;omega))));have hsr9:=HS_1.out _ hbr9.out;have hch8_9:Hid (Below w8.heap.size w8 w9):=hid (Below.trans (by go_grown) (hb.mono (by first|omega|(simp;done)|(simp;omega))));clear hb))
         |(go_at_call 25;go_loud ((refine (XS (Hrx_t_1.out _ (HBR.out.trans (by go_grown))) HCR.out (by show t.sz<=_;omega) (by show tc.length<=_;omega)).mono ?_);rintro e w8 ⟨xe8,xk8,xc8,rfl,hrd8,hsl8,hb⟩;have hbr8:Hid (Below (w7).heap.size w7 w8):=hid (Below.trans (HBR.out.trans (by go_grown)) (hb.mono (by first|omega|(simp;done)|(simp;omega))));have hsr8:=HS_1.out _ hbr8.out;(try simp only at hrd8);(try simp only at hsl8);replace hrd8:=qX7 (fun _ _=>rfl) (fun _ h=>h) _ _ _ hrd8;replace hsl8:=hsl8.dn;obtain⟨Ar8,nr8,Br8,mr8,hv1,hv2⟩:=Ql hrd8;subst hv1;subst hv2;obtain⟨Dr8,kr8,hv3⟩:=hsl8.shape;subst hv3;have HR8:=hid hrd8;have HL8:=hid hsl8;clear hrd8 hsl8;have HRg:Hid (∀ W,Below w8.heap.size w8 W->t.rd W W.heap.size (.slice Ar8 t.es.length nr8) (.slice Br8 t.ks.length mr8)):=fun W hW=>Zx HR8.out (fun b hb=>hb.2) hW;have HLg:Hid (∀ W,Below w8.heap.size w8 W->SlP W W.heap.size 3 SpE (.slice Dr8 tc.length kr8) tc):=fun W hW=>HL8.out.slp (fun b hb=>hb.2) hW;clear hb)))
       all_goals (
        clear hs_b4 hs_b3 c3_q hs c00 c01 c02
        obtain⟨hs_b4,ro_q,hs_b3,rx_t,c3_q,ro_n,hW0,hB,hs,rt0,rc0,ro1,c00,c01,c02⟩:=HX4.out _ hbr9.out
        go_wp2_with fail
        go_ret
        exact⟨rfl,hB⟩)
end Go.Proofs.YtbcoelggdikipaaGreat
