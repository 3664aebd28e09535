/- What the laws need. No condition but those that each lemma states. -/
import Derived.Test.YtbcoelggdikipaaGreatUq11
import Derived.Test.YtbcoelggdikipaaGreatUq14
import Derived.Test.YtbcoelggdikipaaGreatUq12
import Derived.Test.YtbcoelggdikipaaGreatUq13
set_option maxRecDepth 100000
set_option maxHeartbeats 8000000
set_option linter.unusedSimpArgs false
namespace Go.Proofs.YtbcoelggdikipaaGreat
open Go.RowKit
def RDoR (w:World)(B:Nat)(N:Kn)(ops:List Opr)(o:Opr)(ge gk gc vo ne nk nc:Value)(e:Ending)(w':World):Prop:=
 ((doI N ops.length o≠0/\e=.returned (.tuple #[.agg #[ge,gk,gc,vo,ne,nk,nc],.int .i64 (doI N ops.length o)])) ∨
  (doI N ops.length o=0/\∃ vo' ne' nk' nc',e=.returned (.tuple #[.agg #[ge,gk,gc,vo',ne',nk',nc'],.int .i64 0])/\(aftK N o (txD ops.length)).1.rda w' (fun b=>w.heap.size<=b/\b<w'.heap.size) ne' nk'/\SlA w' (fun b=>w.heap.size<=b/\b<w'.heap.size) 3 SpE nc' (aftK N o (txD ops.length)).2/\OwnD w' w.heap.size 65 4 OpA (fun b=>b<B) vo' (ops++[o])))/\Below w.heap.size w w'
theorem zYf {w W:World}{vo:Value}{A:Option Addr}{n r B:Nat}{o:Opr}(hs:SlP w B 1 StE (.slice A o.path.length n) o.path)(hB:B<=w.heap.size)(hb:Below w.heap.size w W)(ho:o.Ok)(hr:W.heap[r]?=some (.cells #[.slice A o.path.length n,.int .i64 o.act,.string o.s,.int .i64 o.n] 65 (0,0)))(hv:∀ b,b<B->vo.ownBlock≠some b) :
  SlP W W.heap.size 4 (OpA W (fun b=>b<B/\b<W.heap.size/\vo.ownBlock≠some b)) (.slice (some ⟨r,0,none⟩) 1 1) [o]:=by
 have hsz:=hb.size
 refine⟨_,1,rfl,Nat.le_refl _,by simp[Big],fun _=>⟨r,0,rfl,lt_of_block hr,fun j y hy=>?_⟩⟩
 match j,hy with
 |0,hy=>
  simp at hy;subst hy
  exact⟨_,⟨_,_,rfl,(Zk.1 hs).up (fun b hb'=>hb.block b (Nat.lt_of_lt_of_le hb' hB)) (fun b hb'=>⟨hb',Nat.lt_of_lt_of_le hb' (Nat.le_trans hB hsz),hv b hb'⟩) (fun _ _ _ h=>h),ho⟩,rfl,fun i u hi=>by rw[Qa hr];simpa using hi⟩
theorem qUo {w W:World}{vo v:Value}{l:List Opr}{base B:Nat}(h:OwnD w base 65 4 OpA (fun b=>b<B) vo l)(hl:l.length<=Big)(hb:Below w.heap.size w W)(hv:∀ b,b<B->v.ownBlock≠some b):SlP W W.heap.size 4 (OpA W (fun b=>b<B/\b<W.heap.size/\v.ownBlock≠some b)) vo l:=
 (OwnD.sl (OwnD.grow h OpA.mon hb) OpA.mon hl).imp (Below.refl _ _) (Nat.le_refl _) fun _ _ _ hx=>OpA.mon.up (fun _ _=>rfl) (fun b hb'=>⟨hb'.1,hb'.2,hv b hb'.1⟩) hx
theorem zZi {w7 W:World}{g base base':Nat}{okp:Nat->Prop}{v:Value}{l:List Opr}(h:OwnD w7 base 65 4 OpA okp v l)(hk:∀ k,k≠g->W.heap[k]?=w7.heap[k]?)(hs:W.heap.size=w7.heap.size)(hg:g<base)(ho:∀ b,okp b->b≠g)(hB:base'<=base):OwnD W base' 65 4 OpA okp v l:=by
 have h1:=OwnP.keep (w':=W) h fun q hq=>hk q (by have:=(OwnD.lt h q hq).1;omega)
 have h2:OwnD W base 65 4 OpA okp v l:=h1.imp fun x _ cs hx=>OpA.mon.up (fun b hb=>hk b (ho b hb.1)) (fun b hb=>⟨hb.1,by rw[hs];exact hb.2.1,hb.2.2⟩) hx
 exact h2.mono hB
theorem KE {P:Program}{f:Func}{Q:Ending->World->Prop}{a:Act}{W:World}(r:World->Prop)(hr:r W)(h:∀ W',r W'->bodyPost P f Q Exit.ret a W'):bodyPost P f Q Exit.ret a W:=h W hr
theorem qZf {N:Kn}{ops:List Opr}(o:Opr)(ge gk gc vo ne nk nc vp:Value)(lg1 lg2 lg3:Nat)(Ag Bg Cg:Option Addr)(ng mg kg:Nat)(eg:ge=.slice Ag lg1 ng)(eg2:gk=.slice Bg lg2 mg)(eg3:gc=.slice Cg lg3 kg)(w:World)(hn:N.1.rd w w.heap.size ne nk)(hc:SlP w w.heap.size 3 SpE nc N.2){base B:Nat}(hops:OwnD w base 65 4 OpA (fun b=>b<B) vo ops)(hBw:B<=w.heap.size)(hN:KOk N)(z1:N.1.sz<=200)(z2:N.2.length<=9000)(hl:ops.length<=12)
  (hp:SlP w B 1 StE vp o.path) (ho:o.Ok) (hpl:o.path.length<=1000) :
  Calls Tryz.prog 30 #[.agg #[ge,gk,gc,vo,ne,nk,nc],.agg #[vp,.int .i64 o.act,.string o.s,.int .i64 o.n]] w (RDoR w B N ops o ge gk gc vo ne nk nc):=by
 subst eg;subst eg2;subst eg3
 obtain⟨A5,c5,hvp,_⟩:=id hp
 subst hvp
 obtain⟨path,act,s,nn⟩:=o
 simp only at hp ho hpl ⊢
 obtain⟨An,nn1,Bn,mn,e1,e2⟩:=Qk hn
 obtain⟨Cn,kn,e3,_⟩:=id hc
 obtain⟨Ao,no,e4⟩:=OwnP.shape hops
 subst e1;subst e2;subst e3;subst e4
 have HN:=hid hN
 have HO:=hid ho
 have HRW:Hid (∀ W,Below w.heap.size w W->(N.1.rd W W.heap.size (.slice An N.1.es.length nn1) (.slice Bn N.1.ks.length mn)/\SlP W W.heap.size 3 SpE (.slice Cn N.2.length kn) N.2/\SlP W W.heap.size 1 StE (.slice A5 path.length c5) path)):=fun W hW=>⟨Qi hW hW.size _ _ _ hn,hc.imp hW hW.size fun _ _ _ h=>h,(hp.imp (Below.refl _ _) hBw fun _ _ _ h=>h).imp hW hW.size fun _ _ _ h=>h⟩
 have HOPS:=hid hops
 have HP:=hid hp
 have hb0:Below w.heap.size w (((w.alloc (.cells #[.slice Ag lg1 ng,.slice Bg lg2 mg,.slice Cg lg3 kg,.slice Ao ops.length no,.slice An N.1.es.length nn1,.slice Bn N.1.ks.length mn,.slice Cn N.2.length kn] 51)).alloc (.cells #[.slice A5 path.length c5,.int .i64 act,.string s,.int .i64 nn] 65)).alloc (.cells #[.slice none 0 0,.slice none 0 0,.slice none 0 0,.slice none 0 0,.slice none 0 0,.slice none 0 0,.slice none 0 0] 51)):=(((Below.refl _ w).alloc (Nat.le_refl _) _).alloc (by simp) _).alloc (by simp;omega) _
 have HB0:=hid hb0
 have HX:Hid (∀ W,Below (w.heap.size+3) (((w.alloc (.cells #[.slice Ag lg1 ng,.slice Bg lg2 mg,.slice Cg lg3 kg,.slice Ao ops.length no,.slice An N.1.es.length nn1,.slice Bn N.1.ks.length mn,.slice Cn N.2.length kn] 51)).alloc (.cells #[.slice A5 path.length c5,.int .i64 act,.string s,.int .i64 nn] 65)).alloc (.cells #[.slice none 0 0,.slice none 0 0,.slice none 0 0,.slice none 0 0,.slice none 0 0,.slice none 0 0,.slice none 0 0] 51)) W->(Below w.heap.size w W/\w.heap.size+3<=W.heap.size/\W.heap[w.heap.size+2]?=some (.cells #[.slice none 0 0,.slice none 0 0,.slice none 0 0,.slice none 0 0,.slice none 0 0,.slice none 0 0,.slice none 0 0] 51 (0,0)) /\
   W.cell? ⟨w.heap.size,0,none⟩=some (.slice Ag lg1 ng)/\W.cell? ⟨w.heap.size,1,none⟩=some (.slice Bg lg2 mg)/\W.cell? ⟨w.heap.size,2,none⟩=some (.slice Cg lg3 kg)/\W.cell? ⟨w.heap.size,3,none⟩=some (.slice Ao ops.length no)/\W.cell? ⟨w.heap.size,4,none⟩=some (.slice An N.1.es.length nn1)/\W.cell? ⟨w.heap.size,5,none⟩=some (.slice Bn N.1.ks.length mn)/\W.cell? ⟨w.heap.size,6,none⟩=some (.slice Cn N.2.length kn) /\
   W.cell? ⟨w.heap.size+1,0,none⟩=some (.slice A5 path.length c5)/\W.cell? ⟨w.heap.size+1,1,none⟩=some (.int .i64 act)/\W.cell? ⟨w.heap.size+1,2,none⟩=some (.string s)/\W.cell? ⟨w.heap.size+1,3,none⟩=some (.int .i64 nn))):=fun W hW=>by
  have g0:W.heap[w.heap.size]?=some (.cells #[.slice Ag lg1 ng,.slice Bg lg2 mg,.slice Cg lg3 kg,.slice Ao ops.length no,.slice An N.1.es.length nn1,.slice Bn N.1.ks.length mn,.slice Cn N.2.length kn] 51 (0,0)):=(hW.block _ (by omega)).trans ((Qg (by simp<;>omega)).trans ((Qg (by simp)).trans (Qd rfl)))
  have g1:W.heap[w.heap.size+1]?=some (.cells #[.slice A5 path.length c5,.int .i64 act,.string s,.int .i64 nn] 65 (0,0)):=(hW.block _ (by omega)).trans ((Qg (by simp)).trans (Qd (by simp)))
  exact⟨HB0.out.trans (hW.mono (by omega)),by have:=hW.size;simpa using this,(hW.block _ (by omega)).trans (Qd (by simp)),Qa (i:=0) g0,Qa (i:=1) g0,Qa (i:=2) g0,Qa (i:=3) g0,Qa (i:=4) g0,Qa (i:=5) g0,Qa (i:=6) g0,Qa (i:=0) g1,Qa (i:=1) g1,Qa (i:=2) g1,Qa (i:=3) g1⟩
 have hneA:w.heap.size+2≠w.heap.size:=by omega
 have hneB:w.heap.size+2≠w.heap.size+1:=by omega
 clear hn hc hops hN hp ho hb0
 go_enter Tryz.func30,Tryz.ntmps30
 obtain⟨hB,hs3,hG,q0,q1,q2,q3,q4,q5,q6,y0,y1,y2,y3⟩:=HX.out _ (Below.refl _ _)
 by_cases hf:12<=ops.length
 ·have HD:Hid (doI N ops.length ⟨path,act,s,nn⟩=4):=hid (if_pos hf)
  have hfi:(12:Int)<=(ops.length:Int):=by omega
  have HG:=hid hG
  obtain⟨k0,k1,k2,k3,k4,k5,k6,z0,z1,z2,z3,z4,z5,z6⟩:=bz7 hG
  clear hG
  go_wp2_with fail
  refine KE (fun W'=>(W'.heap[w.heap.size+1+1]?=some (.cells #[(.slice Ag lg1 ng),(.slice Bg lg2 mg),(.slice Cg lg3 kg),(.slice Ao ops.length no),(.slice An N.1.es.length nn1),(.slice Bn N.1.ks.length mn),(.slice Cn N.2.length kn)] 51 (0,0))/\Below w.heap.size w W')) ⟨(Qd (by simp)),((((Below.refl _ w).alloc (Nat.le_refl _) _).alloc (by simp) _).alloc (by simp;omega) _)⟩ ?_
  rintro Wz ⟨hz,hx⟩
  obtain⟨r0,r1,r2,r3,r4,r5,r6⟩:=bx7 hz
  refine bodyPost_ret (v:=.tuple #[.agg #[(.slice Ag lg1 ng),(.slice Bg lg2 mg),(.slice Cg lg3 kg),(.slice Ao ops.length no),(.slice An N.1.es.length nn1),(.slice Bn N.1.ks.length mn),(.slice Cn N.2.length kn)],.int .i64 4]) (by simp[results,Tryz.results30,go_sem,r0,r1,r2,r3,r4,r5,r6]<;>rfl) rfl ?_
  exact⟨.inl ⟨by rw[HD.out];decide,by rw[HD.out]⟩,hx⟩
 have hfi:¬((12:Int)<=(ops.length:Int)):=by omega
 obtain⟨P,hPe⟩:∃ P,P=appI N.1 ⟨path,act,s,nn⟩ (txD ops.length):=⟨_,rfl⟩
 obtain⟨PT,hPT⟩:∃ P,P=appT N.1 ⟨path,act,s,nn⟩ (txD ops.length):=⟨_,rfl⟩
 obtain⟨PC,hPC⟩:∃ P,P=appC N.1 ⟨path,act,s,nn⟩ (txD ops.length):=⟨_,rfl⟩
 have HPe:=hid hPe
 have HPT:=hid hPT
 have HPC:=hid hPC
 have HD:Hid (doI N ops.length ⟨path,act,s,nn⟩=P):=by unfold Hid doI;rw[if_neg hf,hPe]
 have HDO:Hid (Dt.Ok (txD ops.length)):=⟨by unfold txD I64;simp only;omega,by unfold txD I64;simp only;omega⟩
 have htd:txD ops.length=⟨0,1099511627765+(ops.length:Int)⟩:=rfl
 rw[htd]at HDO HPe HPT HPC
 have hwr:IntKind.i64.wrap (1099511627765+(ops.length:Int))=1099511627765+(ops.length:Int):=IntWalk.i64_in _ (by omega)
 clear hPe hPT hPC htd hG
 go_upto_region 3 with (fail)
 go_cut [6,7] (fun s6 s7 wx=>s7=.int .i64 P/\BoxG (w.heap.size+3) (((w.alloc (.cells #[.slice Ag lg1 ng,.slice Bg lg2 mg,.slice Cg lg3 kg,.slice Ao ops.length no,.slice An N.1.es.length nn1,.slice Bn N.1.ks.length mn,.slice Cn N.2.length kn] 51)).alloc (.cells #[.slice A5 path.length c5,.int .i64 act,.string s,.int .i64 nn] 65)).alloc (.cells #[.slice none 0 0,.slice none 0 0,.slice none 0 0,.slice none 0 0,.slice none 0 0,.slice none 0 0,.slice none 0 0] 51)) 29 PT PC s6 wx)
 case first=>
  go_wp2_with fail
  refine (Jx N.1 ⟨path,act,s,nn⟩ ⟨0,1099511627765+(ops.length:Int)⟩ _ _ _ _ (HRW.out _ HB0.out).1 (HRW.out _ HB0.out).2.2 HO.out HDO.out hpl (by omega)).mono ?_
  rw[←HPe.out,←HPT.out,←HPC.out]
  rintro e w3 ⟨xe3,xk3,xc3,rfl,hrd3,hsl3,hb3⟩
  obtain⟨A9,n9,B9,m9,hv1,hv2⟩:=Qj hrd3
  subst hv1;subst hv2
  obtain⟨C9,k9,hv3⟩:=hsl3.shape
  subst hv3
  have HB3:=hid (hb3.mono (show w.heap.size+3<=_ by simp))
  have HR9:=hid hrd3
  have HS9:=hid hsl3
  clear hb3 hrd3 hsl3 q0 q1 q2 q3 q4 q5 q6 y0 y1 y2 y3 hB hs3
  have hs33:=(HX.out _ HB3.out).2.1
  go_wp2_with fail
  go_meet
  case rel=>exact⟨rfl,XY HB3.out hs33 (by simp) HR9.out HS9.out⟩
 case rest=>
 obtain⟨rfl,q9,rfl,hq9,xe,xk,xc,hG9,hrd,hsl,hbz⟩:=hcut
 obtain⟨w4,hw4⟩:∃ z:World,z=wc:=⟨wc,rfl⟩
 subst hw4
 obtain⟨A8,n8,B8,m8,hv1,hv2⟩:=Qj hrd
 subst hv1;subst hv2
 obtain⟨C8,k8,hv3⟩:=hsl.shape
 subst hv3
 have HB4:=hid hbz
 have HR8:=hid hrd
 have HS8:=hid hsl
 have HG9:=hid hG9
 have hs9:=lt_of_block hG9
 have hs4:=hbz.size
 have hne9:q9≠w.heap.size:=by omega
 clear hrd hsl hbz q0 q1 q2 q3 q4 q5 q6 y0 y1 y2 y3 hB hs3
 obtain⟨hB4,hs44,hG4,q0,q1,q2,q3,q4,q5,q6,y0,y1,y2,y3⟩:=HX.out _ HB4.out
 have HG4:=hid hG4
 have HBW4:=hid hB4
 clear hG9 hB4
 by_cases hP:P=0
 case neg=>
  have hPn:(P != 0)=true:=by simpa using hP
  have HDP:=hid hP
  obtain⟨k0,k1,k2,k3,k4,k5,k6,z0,z1,z2,z3,z4,z5,z6⟩:=bz7 hG4
  clear hG4 hP
  go_wp2_with fail
  refine KE (fun W'=>(W'.heap[w.heap.size+1+1]?=some (.cells #[(.slice Ag lg1 ng),(.slice Bg lg2 mg),(.slice Cg lg3 kg),(.slice Ao ops.length no),(.slice An N.1.es.length nn1),(.slice Bn N.1.ks.length mn),(.slice Cn N.2.length kn)] 51 (0,0))/\Below w.heap.size w W')) ⟨(box7 HG4.out _ _ _ _ _ _ _).1,((box7 HG4.out _ _ _ _ _ _ _).2.2.2 _ _ (by omega) HBW4.out)⟩ ?_
  rintro Wz ⟨hz,hx⟩
  obtain⟨r0,r1,r2,r3,r4,r5,r6⟩:=bx7 hz
  refine bodyPost_ret (v:=.tuple #[.agg #[(.slice Ag lg1 ng),(.slice Bg lg2 mg),(.slice Cg lg3 kg),(.slice Ao ops.length no),(.slice An N.1.es.length nn1),(.slice Bn N.1.ks.length mn),(.slice Cn N.2.length kn)],.int .i64 P]) (by simp[results,Tryz.results30,go_sem,r0,r1,r2,r3,r4,r5,r6]<;>rfl) rfl ?_
  exact⟨.inl ⟨by rw[HD.out];exact HDP.out,by rw[HD.out]⟩,hx⟩
 subst hP
 have HXA:Hid (aftK N ⟨path,act,s,nn⟩ (txD ops.length)=jn N (PT,PC)):=by unfold Hid aftK;rw[HPT.out,HPC.out];rfl
 have hPK:KOk (PT,PC):=by rw[HPT.out,HPC.out];exact (QM HPe.out.symm).1
 have hPTs:PT.sz<=5:=by rw[HPT.out];exact (QM HPe.out.symm).2
 have hPCs:PC.length<=4*(N.1.sz+2):=by rw[HPC.out];exact Kq HPe.out.symm
 have HSN:Hid (SpsOk N.2):=hid (Zv HN.out.ap)
 have HSP:Hid (SpsOk PC):=hid (Zv hPK.ap)
 obtain⟨⟨JT,JC⟩,HJJ⟩:∃ q,Hid (jn N (PT,PC)=q):=⟨_,rfl⟩
 have HJ2:Hid (Qz (r9L (N.1.lvs []) (PT.lvs []) N.2 PC)=JT):=(r9_jn HN.out hPK).trans (congrArg Prod.fst HJJ.out)
 have HJ3:Hid (ctxBy N.2 PC 0=JC):=(show ctxBy N.2 PC 0=(jn N (PT,PC)).2 from rfl).trans (congrArg Prod.snd HJJ.out)
 have HL1:Hid (([]:List Opr).length+ops.length<=Few):=by unfold Hid Few;simp;omega
 have HL2:Hid (ops.length + [(⟨path,act,s,nn⟩:Opr)].length<=Few):=by unfold Hid Few;simp;omega
 have HS4:Hid (∀ W,Below w4.heap.size w4 W->((W.cell? ⟨w.heap.size,0,none⟩=some (.slice Ag lg1 ng)/\W.cell? ⟨w.heap.size,1,none⟩=some (.slice Bg lg2 mg)/\W.cell? ⟨w.heap.size,2,none⟩=some (.slice Cg lg3 kg)/\W.cell? ⟨w.heap.size,3,none⟩=some (.slice Ao ops.length no)/\W.cell? ⟨w.heap.size,4,none⟩=some (.slice An N.1.es.length nn1)/\W.cell? ⟨w.heap.size,5,none⟩=some (.slice Bn N.1.ks.length mn)/\W.cell? ⟨w.heap.size,6,none⟩=some (.slice Cn N.2.length kn) /\
   W.cell? ⟨w.heap.size+1,0,none⟩=some (.slice A5 path.length c5)/\W.cell? ⟨w.heap.size+1,1,none⟩=some (.int .i64 act)/\W.cell? ⟨w.heap.size+1,2,none⟩=some (.string s)/\W.cell? ⟨w.heap.size+1,3,none⟩=some (.int .i64 nn)/\W.cell? ⟨q9,0,none⟩=some (.slice A8 PT.es.length n8)/\W.cell? ⟨q9,1,none⟩=some (.slice B8 PT.ks.length m8)/\W.cell? ⟨q9,2,none⟩=some (.slice C8 PC.length k8)) /\
   (N.1.rd W W.heap.size (.slice An N.1.es.length nn1) (.slice Bn N.1.ks.length mn)/\SlP W W.heap.size 3 SpE (.slice Cn N.2.length kn) N.2/\PT.rd W W.heap.size (.slice A8 PT.es.length n8) (.slice B8 PT.ks.length m8)/\SlP W W.heap.size 3 SpE (.slice C8 PC.length k8) PC)/\Below w.heap.size w W)):=fun W hW=>by
  obtain⟨b1,b2,b3,q0,q1,q2,q3,q4,q5,q6,y0,y1,y2,y3⟩:=HX.out W (HB4.out.trans (hW.mono (by omega)))
  have g0:=(hW.block q9 hs9).trans HG9.out
  exact⟨⟨q0,q1,q2,q3,q4,q5,q6,y0,y1,y2,y3,Qa (i:=0) g0,Qa (i:=1) g0,Qa (i:=2) g0⟩,⟨(HRW.out _ b1).1,(HRW.out _ b1).2.1,QQ HR8.out (fun _ hb=>hb.2) hW,HS8.out.slp (fun _ hb=>hb.2) hW⟩,b1⟩
 have HKW:Hid (∀ W X:World,Below w4.heap.size w4 W->(∀ k,k≠w.heap.size+1+1->X.heap[k]?=W.heap[k]?)->(X.cell? ⟨w.heap.size,0,none⟩=some (.slice Ag lg1 ng)/\X.cell? ⟨w.heap.size,1,none⟩=some (.slice Bg lg2 mg)/\X.cell? ⟨w.heap.size,2,none⟩=some (.slice Cg lg3 kg)/\X.cell? ⟨w.heap.size,3,none⟩=some (.slice Ao ops.length no)/\X.cell? ⟨w.heap.size,4,none⟩=some (.slice An N.1.es.length nn1)/\X.cell? ⟨w.heap.size,5,none⟩=some (.slice Bn N.1.ks.length mn)/\X.cell? ⟨w.heap.size,6,none⟩=some (.slice Cn N.2.length kn)/\X.cell? ⟨w.heap.size+1,0,none⟩=some (.slice A5 path.length c5)/\X.cell? ⟨w.heap.size+1,1,none⟩=some (.int .i64 act)/\X.cell? ⟨w.heap.size+1,2,none⟩=some (.string s)/\X.cell? ⟨w.heap.size+1,3,none⟩=some (.int .i64 nn)/\X.cell? ⟨q9,0,none⟩=some (.slice A8 PT.es.length n8)/\X.cell? ⟨q9,1,none⟩=some (.slice B8 PT.ks.length m8)/\X.cell? ⟨q9,2,none⟩=some (.slice C8 PC.length k8))):=fun W X hW hk=>by
  obtain⟨q0,q1,q2,q3,q4,q5,q6,y0,y1,y2,y3,d0,d1,d2⟩:=(HS4.out W hW).1
  have e2:=hk w.heap.size (by omega)
  have e3:=hk (w.heap.size+1) (by omega)
  have e9:=hk q9 (by omega)
  exact⟨(World.cell?_of_block e2).trans q0,(World.cell?_of_block e2).trans q1,(World.cell?_of_block e2).trans q2,(World.cell?_of_block e2).trans q3,(World.cell?_of_block e2).trans q4,(World.cell?_of_block e2).trans q5,(World.cell?_of_block e2).trans q6,(World.cell?_of_block e3).trans y0,(World.cell?_of_block e3).trans y1,(World.cell?_of_block e3).trans y2,(World.cell?_of_block e3).trans y3,(World.cell?_of_block e9).trans d0,(World.cell?_of_block e9).trans d1,(World.cell?_of_block e9).trans d2⟩
 obtain⟨d0,d1,d2⟩:=bx3 HG9.out
 clear hG4
 go_upto_region 6 with (fail)
 go_region_held3 (fun W=>W.cell? ⟨w.heap.size,0,none⟩=some (.slice Ag lg1 ng)/\W.cell? ⟨w.heap.size,1,none⟩=some (.slice Bg lg2 mg)/\W.cell? ⟨w.heap.size,2,none⟩=some (.slice Cg lg3 kg)/\W.cell? ⟨w.heap.size,3,none⟩=some (.slice Ao ops.length no)/\W.cell? ⟨w.heap.size,4,none⟩=some (.slice An N.1.es.length nn1)/\W.cell? ⟨w.heap.size,5,none⟩=some (.slice Bn N.1.ks.length mn)/\W.cell? ⟨w.heap.size,6,none⟩=some (.slice Cn N.2.length kn) /\
   W.cell? ⟨w.heap.size+1,0,none⟩=some (.slice A5 path.length c5)/\W.cell? ⟨w.heap.size+1,1,none⟩=some (.int .i64 act)/\W.cell? ⟨w.heap.size+1,2,none⟩=some (.string s)/\W.cell? ⟨w.heap.size+1,3,none⟩=some (.int .i64 nn)/\W.cell? ⟨q9,0,none⟩=some (.slice A8 PT.es.length n8)/\W.cell? ⟨q9,1,none⟩=some (.slice B8 PT.ks.length m8)/\W.cell? ⟨q9,2,none⟩=some (.slice C8 PC.length k8))
  (first|with_reducible exact (HS4.out _ HB7.out).1|with_reducible exact HK7.out _ _ _ _ _ _ _|with_reducible exact (HS4.out _ HB6.out).1|exact (HS4.out _ (HB5.out.trans (by go_grown))).1|exact (HS4.out _ (by go_grown)).1|go_keep)
  (first
   |(refine Xa rfl (.tmp 35) (.tmp 37) _ rfl OpA.mon eiOp (by decide) (by decide) rfl (HO5.out.grow OpA.mon (by go_grown)) rfl (zYf (o:=⟨path,act,s,nn⟩) HP.out hBw (HS4.out _ (HB5.out.trans (by go_grown))).2.2 HO.out (by first|exact Qd rfl|exact (HG5.out.block _ (by first|(simp;done)|(simp;omega)) (by simp[Value.ownBlock])).trans (Qd (by simp))|exact (HG5.out.block _ (by first|(simp;done)|(simp;omega)) (by simp[Value.ownBlock])).trans ((Qg (by simp)).trans (Qd rfl))) (fun b hb e=>by have:=HO5.out.lt b e;omega)) HL2.out (by have:=HB5.out.size;first|omega|(simp;omega)) ?_;intro v6 w6 hown6 hb6 hg6 hv6;(have HO6:=hid hown6);(have HB6:Hid (Below w4.heap.size w4 w6):=hid ((HB5.out.trans (by go_grown)).trans hb6));(have hs6:=HB6.out.size);(have hsh6:=OwnP.shape hown6);simp only[List.length_append,List.length_singleton]at hsh6;obtain⟨A6,n6,hv6⟩:=hsh6;subst hv6;clear hown6 hb6 hg6 hv6)
   |((refine Xa (v:=.slice (some ⟨w4.heap.size,0,none⟩) 0 0) rfl (.tmp 32) (.tmp 34) _ rfl OpA.mon eiOp (by decide) (by decide) rfl (base:=w4.heap.size) (okp:=fun b=>b<B) (xs:=[]) (OwnP.zero (by first|exact Qd rfl|exact Qd (by simp)|exact (Qg (by simp)).trans (Qd rfl)) (by first|exact Nat.le_refl _|(simp;done)|omega)) rfl (qUo HOPS.out (by unfold Big;omega) (HS4.out _ (by go_grown)).2.2 (fun b hb=>by intro e;simp[Value.ownBlock]at e;omega)) HL1.out (by first|omega|(simp;done)|(simp;omega)) ?_;intro v5 w5 hown5 hb5 hg5 hv5;simp only[List.nil_append]at hown5;(have HO5:=hid hown5);(have HG5:=hid hg5);(have HB5:Hid (Below w4.heap.size w4 w5):=hid (Below.trans (by go_grown) hb5));(have hs5:=HB5.out.size);obtain⟨A7,n7,hvv5⟩:=OwnP.shape hown5;subst hvv5;clear hown5 hb5 hg5 hv5))
   |((refine Xa (v:=.slice (some ⟨w4.heap.size+1,0,none⟩) 0 0) rfl (.tmp 32) (.tmp 34) _ rfl OpA.mon eiOp (by decide) (by decide) rfl (base:=w4.heap.size) (okp:=fun b=>b<B) (xs:=[]) (OwnP.zero (by first|exact Qd rfl|exact Qd (by simp)|exact (Qg (by simp)).trans (Qd rfl)) (by first|exact Nat.le_refl _|(simp;done)|omega)) rfl (qUo HOPS.out (by unfold Big;omega) (HS4.out _ (by go_grown)).2.2 (fun b hb=>by intro e;simp[Value.ownBlock]at e;omega)) HL1.out (by first|omega|(simp;done)|(simp;omega)) ?_;intro v5 w5 hown5 hb5 hg5 hv5;simp only[List.nil_append]at hown5;(have HO5:=hid hown5);(have HG5:=hid hg5);(have HB5:Hid (Below w4.heap.size w4 w5):=hid (Below.trans (by go_grown) hb5));(have hs5:=HB5.out.size);obtain⟨A7,n7,hvv5⟩:=OwnP.shape hown5;subst hvv5;clear hown5 hb5 hg5 hv5))
   |(go_at_call 63;go_loud ((refine (Xl N.2 PC N.1 PT _ _ _ _ _ _ _ (HS4.out _ (HB6.out.trans (by go_grown))).2.1.1 (HS4.out _ (HB6.out.trans (by go_grown))).2.1.2.2.1 (HS4.out _ (HB6.out.trans (by go_grown))).2.1.2.1 (HS4.out _ (HB6.out.trans (by go_grown))).2.1.2.2.2 (by omega) (by omega) HSN.out HSP.out (by omega) (by omega)).mono ?_);rw[HJ2.out,HJ3.out];rintro e w7 ⟨xe7,xk7,xc7,rfl,hrd7,hsl7,hb7⟩;obtain⟨Ar7,nr7,Br7,mr7,hv1,hv2⟩:=Qj hrd7;subst hv1;subst hv2;obtain⟨Dr7,kr7,hv3⟩:=hsl7.shape;subst hv3;have HR7:=hid hrd7;have HL7:=hid hsl7;have HB7:Hid (Below w4.heap.size w4 w7):=hid ((HB6.out.trans (by go_grown)).trans (hb7.mono (by have:=HB6.out.size;first|omega|(simp;omega))));have HB67:Hid (Below w6.heap.size w6 w7):=hid (Below.trans (by go_grown) (hb7.mono (by first|omega|(simp;done)|(simp;omega))));have HG7:Hid (w7.heap[w.heap.size+1+1]?=some (.cells #[.slice none 0 0,.slice none 0 0,.slice none 0 0,.slice none 0 0,.slice none 0 0,.slice none 0 0,.slice none 0 0] 51 (0,0))):=hid ((HB7.out.block (w.heap.size+1+1) (by omega)).trans HG4.out);have HK7:=hid (fun (a b c d e f h:Value)=>HKW.out w7 (((((((((w7.setCell ⟨w.heap.size+1+1,0,none⟩ a).setCell ⟨w.heap.size+1+1,1,none⟩ b).setCell ⟨w.heap.size+1+1,2,none⟩ c).setCell ⟨w.heap.size+1+1,3,none⟩ d).setCell ⟨w.heap.size+1+1,4,none⟩ e).setCell ⟨w.heap.size+1+1,5,none⟩ f).setCell ⟨w.heap.size+1+1,6,none⟩ h))) HB7.out (box7 HG7.out a b c d e f h).2.1);have k0:w7.cell? ⟨w.heap.size+2,0,none⟩=some (.slice none 0 0):=Qa (i:=0) HG7.out;have k1:w7.cell? ⟨w.heap.size+2,1,none⟩=some (.slice none 0 0):=Qa (i:=1) HG7.out;have k2:w7.cell? ⟨w.heap.size+2,2,none⟩=some (.slice none 0 0):=Qa (i:=2) HG7.out;have k3:w7.cell? ⟨w.heap.size+2,3,none⟩=some (.slice none 0 0):=Qa (i:=3) HG7.out;have k4:w7.cell? ⟨w.heap.size+2,4,none⟩=some (.slice none 0 0):=Qa (i:=4) HG7.out;have k5:w7.cell? ⟨w.heap.size+2,5,none⟩=some (.slice none 0 0):=Qa (i:=5) HG7.out;have k6:w7.cell? ⟨w.heap.size+2,6,none⟩=some (.slice none 0 0):=Qa (i:=6) HG7.out;have z0:w7.frozen? ⟨w.heap.size+2,0,none⟩=false:=Qb (i:=0) HG7.out;have z1:w7.frozen? ⟨w.heap.size+2,1,none⟩=false:=Qb (i:=1) HG7.out;have z2:w7.frozen? ⟨w.heap.size+2,2,none⟩=false:=Qb (i:=2) HG7.out;have z3:w7.frozen? ⟨w.heap.size+2,3,none⟩=false:=Qb (i:=3) HG7.out;have z4:w7.frozen? ⟨w.heap.size+2,4,none⟩=false:=Qb (i:=4) HG7.out;have z5:w7.frozen? ⟨w.heap.size+2,5,none⟩=false:=Qb (i:=5) HG7.out;have z6:w7.frozen? ⟨w.heap.size+2,6,none⟩=false:=Qb (i:=6) HG7.out;clear hrd7 hsl7 hb7))
   |fail)
 all_goals
  have hs7:=HB7.out.size
  have hBX:=box7 HG7.out (.slice Ag lg1 ng) (.slice Bg lg2 mg) (.slice Cg lg3 kg) (.slice A6 (ops.length+1) n6) (.slice Ar7 JT.es.length nr7) (.slice Br7 JT.ks.length mr7) (.slice Dr7 JC.length kr7)
  have HBX:=hid hBX
  clear hBX k0 k1 k2 k3 k4 k5 k6 z0 z1 z2 z3 z4 z5 z6
  go_wp2_with fail
  refine KE (fun W'=>(W'.heap[w.heap.size+1+1]?=some (.cells #[(.slice Ag lg1 ng),(.slice Bg lg2 mg),(.slice Cg lg3 kg),(.slice A6 (ops.length+1) n6),(.slice Ar7 JT.es.length nr7),(.slice Br7 JT.ks.length mr7),(.slice Dr7 JC.length kr7)] 51 (0,0))/\(JT.rda W' (fun b=>w.heap.size<=b/\b<W'.heap.size) (.slice Ar7 JT.es.length nr7) (.slice Br7 JT.ks.length mr7)/\SlA W' (fun b=>w.heap.size<=b/\b<W'.heap.size) 3 SpE (.slice Dr7 JC.length kr7) JC/\OwnD W' w.heap.size 65 4 OpA (fun b=>b<B) (.slice A6 (ops.length+1) n6) (ops++[⟨path,act,s,nn⟩])/\Below w.heap.size w W'))) ⟨HBX.out.1,⟨Qp (fun b hb=>HBX.out.2.1 b (by have:=hb.1;first|omega|(simp at this;omega))) (fun b hb=>⟨by have:=hb.1;first|omega|(simp at this;omega),(show b<_ by rw[HBX.out.2.2.1];exact hb.2)⟩) _ _ _ HR7.out,HL7.out.up (fun b hb=>HBX.out.2.1 b (by have:=hb.1;first|omega|(simp at this;omega))) (fun b hb=>⟨by have:=hb.1;first|omega|(simp at this;omega),(show b<_ by rw[HBX.out.2.2.1];exact hb.2)⟩) (fun _ _ _ h=>h),zZi (HO6.out.grow OpA.mon HB67.out) HBX.out.2.1 HBX.out.2.2.1 (by omega) (fun b hb=>by omega) (by omega),HBX.out.2.2.2 _ _ (by omega) (HS4.out _ HB7.out).2.2⟩⟩ ?_
  rintro Wz ⟨hz,hx⟩
  obtain⟨r0,r1,r2,r3,r4,r5,r6⟩:=bx7 hz
  refine bodyPost_ret (v:=.tuple #[.agg #[(.slice Ag lg1 ng),(.slice Bg lg2 mg),(.slice Cg lg3 kg),(.slice A6 (ops.length+1) n6),(.slice Ar7 JT.es.length nr7),(.slice Br7 JT.ks.length mr7),(.slice Dr7 JC.length kr7)],.int .i64 0]) (by simp[results,Tryz.results30,go_sem,r0,r1,r2,r3,r4,r5,r6]<;>rfl) rfl ?_
  exact⟨.inr ⟨HD.out,_,_,_,_,rfl,by rw[HXA.out,HJJ.out];exact hx.1,by rw[HXA.out,HJJ.out];exact hx.2.1,hx.2.2.1⟩,hx.2.2.2⟩
def txS (G:Kn)(l:List Opr):List Opr×Kn:=l.foldl (fun s o=>(doO s.2 s.1 o,doK s.2 s.1.length o)) ([],G)
theorem zZj (G:Kn)(l:List Opr)(o:Opr):txS G (l++[o])=(doO (txS G l).2 (txS G l).1 o,doK (txS G l).2 (txS G l).1.length o):=by unfold txS;rw[List.foldl_append];rfl
theorem zZk {G:Kn}{l:List Opr}{k:Nat}{o:Opr}(h:l[k]?=some o):txS G (l.take (k+1))=(doO (txS G (l.take k)).2 (txS G (l.take k)).1 o,doK (txS G (l.take k)).2 (txS G (l.take k)).1.length o):=by
 rw[List.take_add_one,h];exact zZj _ _ _
structure TxI (G:Kn)(s:List Opr×Kn):Prop where
 len:s.1.length<=12
 ok:okTx txD G s.1
 now:s.2=(chS txD G s.1).2.1
theorem TxI.step {G:Kn}{s:List Opr×Kn}(h:TxI G s)(o:Opr):TxI G (doO s.2 s.1 o,doK s.2 s.1.length o):=by
 obtain⟨ops,N⟩:=s
 obtain⟨h1,h2,h3⟩:=h
 simp only at h1 h2 h3 ⊢
 unfold doO doK
 split
 ·rename_i hz
  have hz2:=hz
  unfold doI at hz2
  split at hz2
  ·cases hz2
  ·rename_i hlt
   refine⟨by simp;omega,fun k o' ho'=>?_,?_⟩
   ·rcases Nat.lt_or_ge k ops.length with hk|hk
    ·rw[List.getElem?_append_left hk]at ho'
     rw[List.take_append_of_le_length (Nat.le_of_lt hk)]
     exact h2 k o' ho'
    ·rw[List.getElem?_append_right hk]at ho'
     have hk2:k=ops.length:=by
      have:=(List.getElem?_eq_some_iff.1 ho').1
      simp at this;omega
     subst hk2
     simp at ho'
     subst ho'
     rw[List.take_append_of_le_length (Nat.le_refl _),List.take_length,←h3]
     exact hz2
   ·simp only
    rw[qY7]
    show aftK N o (txD ops.length)=aftK _ o (txD _)
    rw[Jo,←h3]
 ·exact⟨h1,h2,h3⟩
theorem TxI.nil (G:Kn):TxI G ([],G):=⟨by simp,fun k o h=>by simp at h,rfl⟩
theorem KF (G:Kn):∀ l:List Opr,TxI G (txS G l):=fun l=>by
 have:∀ (m:List Opr) (s:List Opr×Kn),TxI G s->TxI G (m.foldl (fun s o=>(doO s.2 s.1 o,doK s.2 s.1.length o)) s):=fun m=>by
  induction m with
  |nil=>intro s h;exact h
  |cons o m ih=>intro s h;rw[List.foldl_cons];exact ih _ (h.step o)
 exact this l _ (TxI.nil G)
theorem zYg (G:Kn):∀ l:List Opr,∀ o∈(txS G l).1,o∈l:=fun l=>by
 have:∀ (m:List Opr) (s:List Opr×Kn),∀ o∈(m.foldl (fun s o=>(doO s.2 s.1 o,doK s.2 s.1.length o)) s).1,o∈s.1∨o∈m:=fun m=>by
  induction m with
  |nil=>intro s o h;exact .inl h
  |cons a m ih=>
   intro s o h
   rw[List.foldl_cons]at h
   rcases ih _ o h with h|h
   ·simp only at h
    unfold doO at h
    split at h
    ·rcases List.mem_append.1 h with h|h
     ·exact .inl h
     ·simp at h;subst h;exact .inr (by simp)
    ·exact .inl h
   ·exact .inr (List.mem_cons_of_mem _ h)
 intro o h
 rcases this l ([],G) o h with h|h
 ·cases h
 ·exact h
theorem TxI.facts {G:Kn}{s:List Opr×Kn}(h:TxI G s)(hG:KOk G)(hz:G.1.sz<=40)(hl:G.2.length<=40):KOk s.2/\s.2.1.sz<=100/\s.2.2.length<=6040:=by
 have hc:=Vl hG (by omega) h.len h.ok s.1.length (Nat.le_refl _)
 rw[List.take_length]at hc
 have h0:=h.len
 have h1:=hc.now
 have h2:=hc.z1
 have h3:=hc.l1
 rw[←h.now]at h1 h2 h3
 exact⟨h1,by omega,by omega⟩
def okM (W:World)(B g q:Nat)(vo:Value)(b:Nat):Prop:=b≠g/\b≠q/\vo.ownBlock≠some b/\b<W.heap.size/\b≠B+1
def AllI (B:Nat)(g q:Nat)(G:Kn)(ge gk gc:Value)(s:List Opr×Kn)(wr:World):Prop:=
 ∃ okp v vo vr ne nk nc,TxB wr g okp v vo G s.2 s.1/\(∀ b,okp b->b≠q/\b≠B+1)/\wr.heap[q]?=some (.cells #[ge,gk,gc,vr,ne,nk,nc] 51 (0,0))/\s.2.1.rda wr (okM wr B g q vo) ne nk/\SlA wr (okM wr B g q vo) 3 SpE nc s.2.2/\OwnD wr B 65 4 OpA (fun b=>b<B) vr s.1/\∀ b,vr.ownBlock=some b->okM wr B g q vo b
theorem AllI.step {B g q:Nat}{G N:Kn}{ge gk gc x0 x1 x2 x3 x4 x5 x6 vo vr ne nk nc:Value}{ops:List Opr}{o:Opr}{okp:Nat->Prop}{v:Nat->V3}{wx w2:World}{e:Ending}(hok:∀ b,okp b->b≠q/\b≠B+1)(hD:DoR wx g okp v vo G N ops o e w2)
  (hN:(doK N ops.length o).1.rda wx (okM wx B g q vo) ne nk) (hC:SlA wx (okM wx B g q vo) 3 SpE nc (doK N ops.length o).2) (hO:OwnD wx B 65 4 OpA (fun b=>b<B) vr (doO N ops o)) (hv:∀ b,vr.ownBlock=some b->okM wx B g q vo b) (hq:q<wx.heap.size) (hB:B+1<wx.heap.size) (hgq:q≠g) (hBq:B<=q) (hBg:B<=g) (hvB:∀ b,vo.ownBlock=some b->B<=b)
  (hbox:w2.heap[q]?=some (.cells #[x0,x1,x2,x3,x4,x5,x6] 51 (0,0))) :
  AllI B g q G ge gk gc (doO N ops o,doK N ops.length o) (((((((((w2.setCell ⟨q,0,none⟩ ge).setCell ⟨q,1,none⟩ gk).setCell ⟨q,2,none⟩ gc).setCell ⟨q,3,none⟩ vr).setCell ⟨q,4,none⟩ ne).setCell ⟨q,5,none⟩ nk).setCell ⟨q,6,none⟩ nc))):=by
 obtain⟨v',vo',hst',_,hvo'⟩:=hD.st
 obtain⟨hW,hK,hS,_⟩:=box7 hbox ge gk gc vr ne nk nc
 have hs2:=hD.below.size
 have hkp:=hD.keep
 have k1:Keeps (okM wx B g q vo) wx (((((((((w2.setCell ⟨q,0,none⟩ ge).setCell ⟨q,1,none⟩ gk).setCell ⟨q,2,none⟩ gc).setCell ⟨q,3,none⟩ vr).setCell ⟨q,4,none⟩ ne).setCell ⟨q,5,none⟩ nk).setCell ⟨q,6,none⟩ nc))):=fun b hb=>(hK b hb.2.1).trans (hkp b hb.2.2.2.1 hb.1 hb.2.2.1)
 have hn:∀ b,vo.ownBlock≠some b->b<wx.heap.size->vo'.ownBlock≠some b:=fun b h1 h2=>by
  rcases hvo' with e1|⟨b',e1,hb'⟩
  ·rw[e1];exact h1
  ·rw[e1];intro e2;cases e2;omega
 have k2:∀ b,okM wx B g q vo b->okM (((((((((w2.setCell ⟨q,0,none⟩ ge).setCell ⟨q,1,none⟩ gk).setCell ⟨q,2,none⟩ gc).setCell ⟨q,3,none⟩ vr).setCell ⟨q,4,none⟩ ne).setCell ⟨q,5,none⟩ nk).setCell ⟨q,6,none⟩ nc))) B g q vo' b:=fun b hb=>⟨hb.1,hb.2.1,hn b hb.2.2.1 hb.2.2.2.1,by rw[hS];have:=hb.2.2.2.1;omega,hb.2.2.2.2⟩
 have k3:∀ b,b<B->okM wx B g q vo b:=fun b hb=>⟨by omega,by omega,fun e=>by have:=hvB b e;omega,by omega,by omega⟩
 refine⟨fun b=>okp b∨wx.heap.size<=b,v',vo',vr,ne,nk,nc,hst'.keep (fun b hb hl=>hK b ?_) (by rw[hS];exact Nat.le_refl _) (fun b hb _=>hb),fun b hb=>?_,hW,Qp k1 k2 _ _ _ hN,hC.up k1 k2 fun _ _ _ h=>h,?_,fun b hb=>k2 b (hv b hb)⟩
 ·rcases hb with (hb|hb)|hb
  ·exact (hok b hb).1
  ·omega
  ·omega
 ·rcases hb with hb|hb
  ·exact hok b hb
  ·exact⟨by omega,by omega⟩
 ·have h1:=OwnP.keep (w':=((((((((w2.setCell ⟨q,0,none⟩ ge).setCell ⟨q,1,none⟩ gk).setCell ⟨q,2,none⟩ gc).setCell ⟨q,3,none⟩ vr).setCell ⟨q,4,none⟩ ne).setCell ⟨q,5,none⟩ nk).setCell ⟨q,6,none⟩ nc))) hO fun b hb=>k1 b (hv b hb)
  exact h1.imp fun x _ cs hx=>OpA.mon.up (fun b hb=>k1 b (k3 b hb.1)) (fun b hb=>⟨hb.1,by rw[hS];have:=hb.2.1;omega,hb.2.2⟩) hx
def AllR (w:World)(G:Kn)(l:List Opr)(e:Ending)(w':World):Prop:=
 ((begE G=1/\e=.returned (.tuple #[.pointer none,.agg #[.slice none 0 0,.slice none 0 0,.slice none 0 0,.slice none 0 0,.slice none 0 0,.slice none 0 0,.slice none 0 0],.bool true])) ∨
  (begE G=0/\∃ g okp v vo ge gk gc vr ne nk nc,e=.returned (.tuple #[.pointer (some ⟨g,0,none⟩),.agg #[ge,gk,gc,vr,ne,nk,nc],.bool true])/\w.heap.size<=g/\TxB w' g okp v vo G (txS G l).2 (txS G l).1/\G.1.rd w' w'.heap.size ge gk/\SlP w' w'.heap.size 3 SpE gc G.2/\(txS G l).2.1.rd w' w'.heap.size ne nk/\SlP w' w'.heap.size 3 SpE nc (txS G l).2.2/\OpL w' vr (txS G l).1))/\Below w.heap.size w w'
def AllX (B g q:Nat)(vo:Value)(N:Kn)(ops:List Opr)(o:Opr)(ge gk gc:Value)(wr:World)(s:Value)(wx:World):Prop:=
 ∃ q12 vr ne nk nc,s=.pointer (some ⟨q12,0,none⟩)/\wr.heap.size<=q12/\wx.heap[q12]?=some (.cells #[ge,gk,gc,vr,ne,nk,nc] 51 (0,0))/\(doK N ops.length o).1.rda wx (okM wx B g q vo) ne nk/\SlA wx (okM wx B g q vo) 3 SpE nc (doK N ops.length o).2/\OwnD wx B 65 4 OpA (fun b=>b<B) vr (doO N ops o)/\(∀ b,vr.ownBlock=some b->okM wx B g q vo b)/\Below wr.heap.size wr wx
section
variable {B g q:Nat}{vo vr ne nk nc ge gk gc:Value}{N:Kn}{ops:List Opr}{o:Opr}{wr w4:World}
theorem qJf {T:Kn}{L:List Opr}(hT:doK N ops.length o=T)(hL:doO N ops o=L)(hb:Below wr.heap.size wr w4)(hN:T.1.rda w4 (okM w4 B g q vo) ne nk)(hC:SlA w4 (okM w4 B g q vo) 3 SpE nc T.2)(hO:OwnD w4 B 65 4 OpA (fun b=>b<B) vr L)(hv:∀ b,vr.ownBlock=some b->okM w4 B g q vo b) :
  AllX B g q vo N ops o ge gk gc wr (.pointer (some ⟨w4.heap.size,0,none⟩)) (w4.alloc (.cells #[ge,gk,gc,vr,ne,nk,nc] 51)):=by
 subst hT
 subst hL
 have k1:Keeps (okM w4 B g q vo) w4 (w4.alloc (.cells #[ge,gk,gc,vr,ne,nk,nc] 51)):=fun b hb'=>Qg hb'.2.2.2.1
 have k2:∀ b,okM w4 B g q vo b->okM (w4.alloc (.cells #[ge,gk,gc,vr,ne,nk,nc] 51)) B g q vo b:=fun b hb'=>⟨hb'.1,hb'.2.1,hb'.2.2.1,by rw[World.size_alloc];have:=hb'.2.2.2.1;omega,hb'.2.2.2.2⟩
 exact⟨w4.heap.size,vr,ne,nk,nc,rfl,hb.size,Qd rfl,Qp k1 k2 _ _ _ hN,hC.up k1 k2 fun _ _ _ h=>h,hO.grow OpA.mon ((Below.refl _ _).alloc (Nat.le_refl _) _),fun b hb'=>k2 b (hv b hb'),hb.alloc hb.size _⟩
theorem qJg {T:Kn}{L:List Opr}(hT:doK N ops.length o=T)(hL:doO N ops o=L){q12:Nat}{x0 x1 x2 x3 x4 x5 x6:Value}(hbx:w4.heap[q12]?=some (.cells #[x0,x1,x2,x3,x4,x5,x6] 51 (0,0)))(hq:wr.heap.size<=q12)(hBq:B<=q12)(hb:Below wr.heap.size wr w4)(hN:T.1.rda w4 (fun b=>okM w4 B g q vo b/\b≠q12) ne nk)(hC:SlA w4 (fun b=>okM w4 B g q vo b/\b≠q12) 3 SpE nc T.2)(hO:OwnD w4 B 65 4 OpA (fun b=>b<B) vr L)(hv:∀ b,vr.ownBlock=some b->okM w4 B g q vo b/\b≠q12) :
  AllX B g q vo N ops o ge gk gc wr (.pointer (some ⟨q12,0,none⟩)) (((((((((w4.setCell ⟨q12,0,none⟩ ge).setCell ⟨q12,1,none⟩ gk).setCell ⟨q12,2,none⟩ gc).setCell ⟨q12,3,none⟩ vr).setCell ⟨q12,4,none⟩ ne).setCell ⟨q12,5,none⟩ nk).setCell ⟨q12,6,none⟩ nc))):=by
 subst hT
 subst hL
 obtain⟨hW,hK,hS,hBl⟩:=box7 hbx ge gk gc vr ne nk nc
 have k1:Keeps (fun b=>okM w4 B g q vo b/\b≠q12) w4 (((((((((w4.setCell ⟨q12,0,none⟩ ge).setCell ⟨q12,1,none⟩ gk).setCell ⟨q12,2,none⟩ gc).setCell ⟨q12,3,none⟩ vr).setCell ⟨q12,4,none⟩ ne).setCell ⟨q12,5,none⟩ nk).setCell ⟨q12,6,none⟩ nc))):=fun b hb'=>hK b hb'.2
 have k2:∀ b,(okM w4 B g q vo b/\b≠q12)->okM (((((((((w4.setCell ⟨q12,0,none⟩ ge).setCell ⟨q12,1,none⟩ gk).setCell ⟨q12,2,none⟩ gc).setCell ⟨q12,3,none⟩ vr).setCell ⟨q12,4,none⟩ ne).setCell ⟨q12,5,none⟩ nk).setCell ⟨q12,6,none⟩ nc))) B g q vo b:=fun b hb'=>⟨hb'.1.1,hb'.1.2.1,hb'.1.2.2.1,by rw[hS];exact hb'.1.2.2.2.1,hb'.1.2.2.2.2⟩
 refine⟨q12,vr,ne,nk,nc,rfl,hq,hW,Qp k1 k2 _ _ _ hN,hC.up k1 k2 fun _ _ _ h=>h,?_,fun b hb'=>k2 b (hv b hb'),hBl _ _ hq hb⟩
 have h1:=OwnP.keep (w':=((((((((w4.setCell ⟨q12,0,none⟩ ge).setCell ⟨q12,1,none⟩ gk).setCell ⟨q12,2,none⟩ gc).setCell ⟨q12,3,none⟩ vr).setCell ⟨q12,4,none⟩ ne).setCell ⟨q12,5,none⟩ nk).setCell ⟨q12,6,none⟩ nc))) hO fun b hb'=>hK b (hv b hb').2
 exact h1.imp fun x _ cs hx=>OpA.mon.up (fun b hb'=>hK b (by have:=hb'.1;omega)) (fun b hb'=>⟨hb'.1,by rw[hS];exact hb'.2.1,hb'.2.2⟩) hx
end
theorem VU {wr w4:World}{B g q m:Nat}{vo:Value}(hg:g<wr.heap.size)(hq:q<wr.heap.size)(hB:B+1<wr.heap.size)(hv:∀ b,vo.ownBlock=some b->b<wr.heap.size)(hm:wr.heap.size<=m)(b:Nat)(hb:m<=b/\b<w4.heap.size):okM w4 B g q vo b:=
 ⟨by omega,by omega,fun e=>by have:=hv b e;omega,hb.2,by omega⟩
theorem qXk {wr w4:World}{B g q m:Nat}{vo:Value}(hg:g<wr.heap.size)(hq:q<wr.heap.size)(hB:B+1<wr.heap.size)(hv:∀ b,vo.ownBlock=some b->b<wr.heap.size)(hm:wr.heap.size<m)(b:Nat)(hb:m<=b/\b<w4.heap.size):okM w4 B g q vo b/\b≠wr.heap.size:=
 ⟨VU hg hq hB hv (Nat.le_of_lt hm) b hb,by omega⟩
theorem Vo {wr w4:World}{B g q:Nat}{vo:Value}(hs:wr.heap.size<=w4.heap.size)(b:Nat)(h:okM wr B g q vo b):okM w4 B g q vo b/\b≠wr.heap.size:=
 ⟨⟨h.1,h.2.1,h.2.2.1,Nat.lt_of_lt_of_le h.2.2.2.1 hs,h.2.2.2.2⟩,Nat.ne_of_lt h.2.2.2.1⟩
theorem zYh {W X:World}{q b:Nat}{a0 a1 a2 a3 a4 a5 a6:Value}(h:(W.cell? ⟨q,0,none⟩=some a0/\W.cell? ⟨q,1,none⟩=some a1/\W.cell? ⟨q,2,none⟩=some a2/\W.cell? ⟨q,3,none⟩=some a3/\W.cell? ⟨q,4,none⟩=some a4/\W.cell? ⟨q,5,none⟩=some a5/\W.cell? ⟨q,6,none⟩=some a6))(hk:∀ k,k≠b->X.heap[k]?=W.heap[k]?)(hq:q≠b):(X.cell? ⟨q,0,none⟩=some a0/\X.cell? ⟨q,1,none⟩=some a1/\X.cell? ⟨q,2,none⟩=some a2/\X.cell? ⟨q,3,none⟩=some a3/\X.cell? ⟨q,4,none⟩=some a4/\X.cell? ⟨q,5,none⟩=some a5/\X.cell? ⟨q,6,none⟩=some a6):=by
 obtain⟨h0,h1,h2,h3,h4,h5,h6⟩:=h
 have e:=hk q hq
 exact⟨(World.cell?_of_block e).trans h0,(World.cell?_of_block e).trans h1,(World.cell?_of_block e).trans h2,(World.cell?_of_block e).trans h3,(World.cell?_of_block e).trans h4,(World.cell?_of_block e).trans h5,(World.cell?_of_block e).trans h6⟩
theorem qJh {W X:World}{q b:Nat}{a0 a1 a2 a3 a4 a5 a6:Value}(h:(W.cell? ⟨q,0,none⟩=some a0/\W.cell? ⟨q,1,none⟩=some a1/\W.cell? ⟨q,2,none⟩=some a2/\W.cell? ⟨q,3,none⟩=some a3/\W.cell? ⟨q,4,none⟩=some a4/\W.cell? ⟨q,5,none⟩=some a5/\W.cell? ⟨q,6,none⟩=some a6))(hk:∀ k,k≠b->X.heap[k]?=W.heap[k]?)(hq:q≠b):(X.drew.cell? ⟨q,0,none⟩=some a0/\X.drew.cell? ⟨q,1,none⟩=some a1/\X.drew.cell? ⟨q,2,none⟩=some a2/\X.drew.cell? ⟨q,3,none⟩=some a3/\X.drew.cell? ⟨q,4,none⟩=some a4/\X.drew.cell? ⟨q,5,none⟩=some a5/\X.drew.cell? ⟨q,6,none⟩=some a6):=zYh (X:=X.drew) h hk hq
theorem drw {X:World}{k:Nat}{o:Obj}(h:X.heap[k]?=some o):X.drew.heap[k]?=some o:=h
theorem qUq (G:Kn)(l:List Opr)(ve vk vc vl:Value)(w:World)(h:G.1.rd w w.heap.size ve vk)(hc:SlP w w.heap.size 3 SpE vc G.2)(hl:OpL w vl l)(hz:G.1.sz<=40)(hz2:G.2.length<=40)(hL:l.length<=20)(hs:∀ o∈l,Zb o=true) :
  Calls Tryz.prog 20 #[.agg #[ve,vk,vc],vl] w (AllR w G l):=by
 obtain⟨t,c⟩:=G
 simp only at h hc hz hz2
 have HC:Hid (∀ w',Below w.heap.size w w'->(t.rd w' w'.heap.size ve vk/\SlP w' w'.heap.size 3 SpE vc c)):=fun w' hb=>⟨Qi hb hb.size _ _ _ h,hc.imp hb hb.size fun _ _ _ h=>h⟩
 have HRA:=hid (qXw t ve vk |>.1 h)
 have HCA:=hid hc
 obtain⟨A3,n3,A4,n4,rfl,rfl⟩:=Qk h
 obtain⟨A5,n5,rfl,_⟩:=hc
 obtain⟨Al,nl,hvl,b1,b2,_⟩:=id hl
 subst hvl
 unfold Big at b2
 have HL0:=hid hl
 have HSS:=hid hs
 have hb0:Below w.heap.size w ((w.alloc (.cells #[.slice A3 t.es.length n3,.slice A4 t.ks.length n4,.slice A5 c.length n5] 29)).alloc (.cells #[.slice none 0 0,.slice none 0 0,.slice none 0 0,.slice none 0 0,.slice none 0 0,.slice none 0 0,.slice none 0 0] 51)):=((Below.refl _ w).alloc (Nat.le_refl _) _).alloc (by simp) _
 have HB0:=hid hb0
 have HX:Hid (∀ W,Below (w.heap.size+2) ((w.alloc (.cells #[.slice A3 t.es.length n3,.slice A4 t.ks.length n4,.slice A5 c.length n5] 29)).alloc (.cells #[.slice none 0 0,.slice none 0 0,.slice none 0 0,.slice none 0 0,.slice none 0 0,.slice none 0 0,.slice none 0 0] 51)) W->Below w.heap.size w W/\w.heap.size+2<=W.heap.size/\W.heap[w.heap.size+1]?=some (.cells #[.slice none 0 0,.slice none 0 0,.slice none 0 0,.slice none 0 0,.slice none 0 0,.slice none 0 0,.slice none 0 0] 51 (0,0))/\W.cell? ⟨w.heap.size,0,none⟩=some (.slice A3 t.es.length n3)/\W.cell? ⟨w.heap.size,1,none⟩=some (.slice A4 t.ks.length n4)/\W.cell? ⟨w.heap.size,2,none⟩=some (.slice A5 c.length n5)):=fun W hW=>by
  have g0:W.heap[w.heap.size]?=some (.cells #[(.slice A3 t.es.length n3),(.slice A4 t.ks.length n4),(.slice A5 c.length n5)] 29 (0,0)):=(hW.block _ (by omega)).trans ((Qg (by simp)).trans (Qd rfl))
  exact⟨HB0.out.trans (hW.mono (by omega)),by have:=hW.size;simpa using this,(hW.block _ (by omega)).trans (Qd (by simp)),Qa (i:=0) g0,Qa (i:=1) g0,Qa (i:=2) g0⟩
 clear h hb0 hl hs
 go_enter Tryz.func20,Tryz.ntmps20
 obtain⟨_,hs0,_,q0,q1,q2⟩:=HX.out _ (Below.refl _ _)
 go_wp2_with fail
 refine (qZa (t,c) _ _ _ _ (HC.out _ HB0.out).1 (HC.out _ HB0.out).2 (by show t.sz<=_;omega) (by show c.length<=_;omega)).mono ?_
 clear q0 q1 q2
 rintro e w1 (⟨hE,rfl,hb1⟩|⟨hE,g,v,rfl,hg,hst,hb1⟩)
 ·have HE:=hid hE
  have HB1:=hid (hb1.mono (show w.heap.size+2<=_ by simp))
  clear hE hb1
  obtain⟨_,hs1,_,q0,q1,q2⟩:=HX.out _ HB1.out
  go_upto_region 2 with (fail)
  go_cut [9,10] (fun s9 s10 wx=>s10=.int .i64 1/\∃ q,s9=.pointer (some ⟨q,0,none⟩)/\w.heap.size+2<=q/\wx.heap[q]?=some (.cells #[.slice none 0 0,.slice none 0 0,.slice none 0 0,.slice none 0 0,.slice none 0 0,.slice none 0 0,.slice none 0 0] 51 (0,0))/\Below (w.heap.size+2) ((w.alloc (.cells #[.slice A3 t.es.length n3,.slice A4 t.ks.length n4,.slice A5 c.length n5] 29)).alloc (.cells #[.slice none 0 0,.slice none 0 0,.slice none 0 0,.slice none 0 0,.slice none 0 0,.slice none 0 0,.slice none 0 0] 51)) wx)
  case first=>
   go_wp2_with fail
   refine (Jw (t,c) _ _ _ _ (HC.out _ (HX.out _ HB1.out).1).1 (HC.out _ (HX.out _ HB1.out).1).2 (by show t.sz<=_;omega) (by show c.length<=_;omega)).mono ?_
   rintro e w2 ⟨h2,hb2⟩
   have HB2:=hid (HB1.out.trans (hb2.mono hs1))
   have hs2:=(HX.out _ HB2.out).2.1
   clear hb2 q0 q1 q2
   rcases h2 with⟨_,rfl⟩|⟨h3,_⟩
   ·go_wp2_with fail
    go_meet
    case rel=>exact⟨rfl,_,rfl,hs2,Qd rfl,HB2.out.alloc hs2 _⟩
   ·rw[HE.out]at h3;cases h3
  case rest=>
   obtain⟨rfl,q,rfl,hq,hG,hbz⟩:=hcut
   obtain⟨wz,hwz⟩:∃ z:World,z=wc:=⟨wc,rfl⟩
   subst hwz
   have HBZ:=hid hbz
   clear q0 q1 q2
   obtain⟨hBw,hsz,hG5,_⟩:=HX.out _ hbz
   have HG5:=hid hG5
   have HBW:=hid hBw
   have hqk:q≠w.heap.size+1:=by omega
   obtain⟨j0,j1,j2,j3,j4,j5,j6⟩:=bx7 hG
   obtain⟨k0,k1,k2,k3,k4,k5,k6,z0,z1,z2,z3,z4,z5,z6⟩:=bz7 hG5
   have HS7:Hid ((wz.cell? ⟨q,0,none⟩=some (.slice none 0 0)/\wz.cell? ⟨q,1,none⟩=some (.slice none 0 0)/\wz.cell? ⟨q,2,none⟩=some (.slice none 0 0)/\wz.cell? ⟨q,3,none⟩=some (.slice none 0 0)/\wz.cell? ⟨q,4,none⟩=some (.slice none 0 0)/\wz.cell? ⟨q,5,none⟩=some (.slice none 0 0)/\wz.cell? ⟨q,6,none⟩=some (.slice none 0 0))):=⟨j0,j1,j2,j3,j4,j5,j6⟩
   have HKQ:=hid (fun (a b c d e f h:Value)=>qJh HS7.out (box7 HG5.out a b c d e f h).2.1 hqk)
   clear hG hG5 hbz hBw
   go_upto_region 6 with (fail)
   go_region_held3 (fun W=>(W.cell? ⟨q,0,none⟩=some (.slice none 0 0)/\W.cell? ⟨q,1,none⟩=some (.slice none 0 0)/\W.cell? ⟨q,2,none⟩=some (.slice none 0 0)/\W.cell? ⟨q,3,none⟩=some (.slice none 0 0)/\W.cell? ⟨q,4,none⟩=some (.slice none 0 0)/\W.cell? ⟨q,5,none⟩=some (.slice none 0 0)/\W.cell? ⟨q,6,none⟩=some (.slice none 0 0)))
    (first|with_reducible exact HKQ.out _ _ _ _ _ _ _|with_reducible exact HS7.out|go_keep)
    (fail)
   all_goals
    go_wp2_with fail
    refine KE (fun W'=>(W'.heap[w.heap.size+1]?=some (.cells #[(.slice none 0 0),(.slice none 0 0),(.slice none 0 0),(.slice none 0 0),(.slice none 0 0),(.slice none 0 0),(.slice none 0 0)] 51 (0,0))/\Below w.heap.size w W')) ⟨drw (box7 HG5.out _ _ _ _ _ _ _).1,((box7 HG5.out _ _ _ _ _ _ _).2.2.2 _ _ (by omega) HBW.out).drew⟩ ?_
    rintro Wz ⟨hz,hx⟩
    obtain⟨r0,r1,r2,r3,r4,r5,r6⟩:=bx7 hz
    refine bodyPost_ret (v:=.tuple #[.pointer none,.agg #[(.slice none 0 0),(.slice none 0 0),(.slice none 0 0),(.slice none 0 0),(.slice none 0 0),(.slice none 0 0),(.slice none 0 0)],.bool true]) (by simp[results,Tryz.results20,go_sem,r0,r1,r2,r3,r4,r5,r6]<;>rfl) rfl ?_
    exact⟨.inl ⟨HE.out,rfl⟩,hx⟩
 ·have HE:=hid hE
  have hk:KOk (t,c):=by
   have h:=hE
   unfold begE at h
   split at h
   ·rename_i hr;exact Xj.1 hr
   ·cases h
  have HK:=hid hk
  have HB1:=hid (hb1.mono (show w.heap.size+2<=_ by simp))
  have HST:=hid hst
  have hg2:w.heap.size+2<=g:=by simpa using hg
  have hgl:=hst.lt
  clear hE hb1 hk hst
  obtain⟨_,hs1,_,q0,q1,q2⟩:=HX.out _ HB1.out
  go_upto_region 2 with (fail)
  go_cut [9,10] (fun s9 s10 wx=>s10=.int .i64 0/\∃ q,s9=.pointer (some ⟨q,0,none⟩)/\w1.heap.size<=q/\wx.heap[q]?=some (.cells #[(.slice A3 t.es.length n3),(.slice A4 t.ks.length n4),(.slice A5 c.length n5),(.slice none 0 0),(.slice A3 t.es.length n3),(.slice A4 t.ks.length n4),(.slice A5 c.length n5)] 51 (0,0))/\Below w1.heap.size w1 wx)
  case first=>
   go_wp2_with fail
   refine (Jw (t,c) _ _ _ _ (HC.out _ (HX.out _ HB1.out).1).1 (HC.out _ (HX.out _ HB1.out).1).2 (by show t.sz<=_;omega) (by show c.length<=_;omega)).mono ?_
   rintro e w2 ⟨h2,hb2⟩
   have HB2:=hid hb2
   have hs2:=hb2.size
   clear hb2 q0 q1 q2
   rcases h2 with⟨h3,_⟩|⟨_,rfl⟩
   ·rw[HE.out]at h3;cases h3
   ·go_wp2_with fail
    go_meet
    case rel=>exact⟨rfl,_,rfl,hs2,Qd rfl,HB2.out.alloc hs2 _⟩
  case rest=>
   obtain⟨rfl,q,rfl,hq,hG,hbz⟩:=hcut
   obtain⟨wz,hwz⟩:∃ z:World,z=wc:=⟨wc,rfl⟩
   subst hwz
   have HBZ:=hid hbz
   have hql:=lt_of_block hG
   have hsz:=hbz.size
   have HG:=hid hG
   clear q0 q1 q2 hG hbz
   have hgq:q≠g:=by omega
   have HSTZ:Hid (AllI w.heap.size g q (t,c) (.slice A3 t.es.length n3) (.slice A4 t.ks.length n4) (.slice A5 c.length n5) (txS (t,c) (l.take 0)) wz):=by
    have h0:txS (t,c) (l.take 0)=([],(t,c)):=rfl
    unfold Hid
    rw[h0]
    have hbw:Below w.heap.size w wz:=(HX.out _ HB1.out).1.trans (HBZ.out.mono (by omega))
    have k1:Keeps (fun b=>b<w.heap.size) w wz:=fun b hb=>hbw.block b hb
    have k2:∀ b,b<w.heap.size->okM wz w.heap.size g q (.slice none 0 0) b:=fun b hb=>⟨by omega,by omega,by simp[Value.ownBlock],by omega,by omega⟩
    exact⟨fun b=>w.heap.size+2<=b/\b<w1.heap.size,v,_,_,_,_,_,HST.out.keep (fun b _ hl=>HBZ.out.block b hl) hsz (fun b hb hl=>⟨by simpa using hb,hl⟩),fun b hb=>⟨by omega,by omega⟩,HG.out,Qp k1 k2 _ _ _ HRA.out,(Zk.1 HCA.out).up k1 k2 (fun _ _ _ h=>h),OwnD.nil,fun b hb=>by simp[Value.ownBlock]at hb⟩
   go_wp2_with fail
   go_loopw [40] (fun i wr=>∃ k:Nat,k<=l.length/\i=.int .i64 k/\AllI w.heap.size g q (t,c) (.slice A3 t.es.length n3) (.slice A4 t.ks.length n4) (.slice A5 c.length n5) (txS (t,c) (l.take k)) wr/\Below (w.heap.size+2) ((w.alloc (.cells #[.slice A3 t.es.length n3,.slice A4 t.ks.length n4,.slice A5 c.length n5] 29)).alloc (.cells #[.slice none 0 0,.slice none 0 0,.slice none 0 0,.slice none 0 0,.slice none 0 0,.slice none 0 0,.slice none 0 0] 51)) wr) (fun i _=>l.length-(intOf i).toNat)
   case atStart=>exact⟨0,Nat.zero_le _,rfl,HSTZ.out,HB1.out.trans (HBZ.out.mono hs1)⟩
   case round=>
    clear HSTZ
    obtain⟨k,hk,rfl,hA,hb⟩:=hrel
    have HB:=hid hb
    have HA:=hid hA
    clear hA hb
    by_cases hlt:k<l.length
    ·obtain⟨x,hx⟩:∃ x,l[k]?=some x:=⟨_,List.getElem?_eq_getElem hlt⟩
     obtain⟨b,off,A6,c6,rfl,hbB,hpx,hox,hu⟩:=OpL.at HL0.out hx
     have hbw:=(HX.out _ HB.out).1
     obtain⟨e0,e1,e2,e3⟩:=hu wr (hbw.block b hbB)
     have HU:=hid hu
     have HTK:=hid (zZk (G:=(t,c)) hx)
     have HPL:Hid (x.path.length<=1000):=by
      have h:=HSS.out x (List.mem_of_getElem? hx)
      unfold Zb at h
      simp only[Bool.and_eq_true,decide_eq_true_eq]at h
      unfold Hid;omega
     obtain⟨okp,vv,vo,vr,ne,nk,nc,hT,hok,hbox,hN,hC,hO,hv⟩:=HA.out
     have hI:=(KF (t,c) (l.take k)).facts HK.out hz hz2
     have hIl:=(KF (t,c) (l.take k)).len
     have hgr:=hT.lt
     have hvB:∀ b',vo.ownBlock=some b'->w.heap.size<=b':=fun b' e=>by have:=(OwnD.lt hT.own b' e).1;omega
     have hvl:∀ b',vo.ownBlock=some b'->b'<wr.heap.size:=fun b' e=>(OwnD.lt hT.own b' e).2
     have HT:=hid hT
     have HOK:=hid hok
     obtain⟨⟨ops,N⟩,HS⟩:∃ S,Hid (txS (t,c) (l.take k)=S):=⟨_,rfl⟩
     rw[HS.out]at hN hC hO hI hIl HT
     have HTK2:Hid (txS (t,c) (l.take (k+1))=(doO N ops x,doK N ops.length x)):=by have h:=HTK.out;rw[HS.out]at h;exact h
     simp only at hN hC hO hI hIl HT
     obtain⟨An,nn,Bn,mn,e4,e5⟩:=Qj hN
     subst e4;subst e5
     obtain⟨Cn,kn,e6⟩:=hC.shape
     subst e6
     obtain⟨Ao,no,e7⟩:=OwnP.shape hO
     subst e7
     have HN:=hid hN
     have HC2:=hid hC
     have HO:=hid hO
     have HV:=hid hv
     have HBX:=hid hbox
     have HPX:=hid hpx
     have HOX:=hid hox
     have HKN:=hid hI.1
     have hzN:=hI.2.1
     have hzC:=hI.2.2
     have hqr:=lt_of_block hbox
     have hsr:=(HX.out _ HB.out).2.1
     obtain⟨P,HP⟩:∃ P,Hid (doI N ops.length x=P):=⟨_,rfl⟩
     obtain⟨j0,j1,j2,j3,j4,j5,j6⟩:=bx7 hbox
     have HKX:Hid (∀ X:World,X.heap[q]?=wr.heap[q]?->X.heap[b]?=wr.heap[b]?->((X.cell? ⟨q,0,none⟩=some (.slice A3 t.es.length n3)/\X.cell? ⟨q,1,none⟩=some (.slice A4 t.ks.length n4)/\X.cell? ⟨q,2,none⟩=some (.slice A5 c.length n5)/\X.cell? ⟨q,3,none⟩=some (.slice Ao ops.length no)/\X.cell? ⟨q,4,none⟩=some (.slice An N.1.es.length nn)/\X.cell? ⟨q,5,none⟩=some (.slice Bn N.1.ks.length mn)/\X.cell? ⟨q,6,none⟩=some (.slice Cn N.2.length kn))/\X.cell? ⟨b,off+k*4,none⟩=some (.slice A6 x.path.length c6)/\X.cell? ⟨b,off+k*4+1,none⟩=some (.int .i64 x.act)/\X.cell? ⟨b,off+k*4+2,none⟩=some (.string x.s)/\X.cell? ⟨b,off+k*4+3,none⟩=some (.int .i64 x.n))):=fun X h1 h2=>
      ⟨⟨(World.cell?_of_block h1).trans j0,(World.cell?_of_block h1).trans j1,(World.cell?_of_block h1).trans j2,(World.cell?_of_block h1).trans j3,(World.cell?_of_block h1).trans j4,(World.cell?_of_block h1).trans j5,(World.cell?_of_block h1).trans j6⟩,HU.out X (h2.trans (hbw.block b hbB))⟩
     have HKB:Hid (∀ W,Below wr.heap.size wr W->((W.cell? ⟨q,0,none⟩=some (.slice A3 t.es.length n3)/\W.cell? ⟨q,1,none⟩=some (.slice A4 t.ks.length n4)/\W.cell? ⟨q,2,none⟩=some (.slice A5 c.length n5)/\W.cell? ⟨q,3,none⟩=some (.slice Ao ops.length no)/\W.cell? ⟨q,4,none⟩=some (.slice An N.1.es.length nn)/\W.cell? ⟨q,5,none⟩=some (.slice Bn N.1.ks.length mn)/\W.cell? ⟨q,6,none⟩=some (.slice Cn N.2.length kn))/\W.cell? ⟨b,off+k*4,none⟩=some (.slice A6 x.path.length c6)/\W.cell? ⟨b,off+k*4+1,none⟩=some (.int .i64 x.act)/\W.cell? ⟨b,off+k*4+2,none⟩=some (.string x.s)/\W.cell? ⟨b,off+k*4+3,none⟩=some (.int .i64 x.n))):=fun W hW=>HKX.out W (hW.block q hqr) (hW.block b (by omega))
     have HRD:Hid (∀ W,Below wr.heap.size wr W->(N.1.rd W W.heap.size (.slice An N.1.es.length nn) (.slice Bn N.1.ks.length mn)/\SlP W W.heap.size 3 SpE (.slice Cn N.2.length kn) N.2/\OwnD W w.heap.size 65 4 OpA (fun b=>b<w.heap.size) (.slice Ao ops.length no) ops/\SlP W w.heap.size 1 StE (.slice A6 x.path.length c6) x.path)):=fun W hW=>
      ⟨QQ HN.out (fun _ hb=>hb.2.2.2.1) hW,HC2.out.slp (fun _ hb=>hb.2.2.2.1) hW,HO.out.grow OpA.mon hW,HPX.out.imp (hbw.trans (hW.mono (by omega))) (Nat.le_refl _) fun _ _ _ h=>h⟩
     have hqw:q≠wr.heap.size:=by omega
     have hB1:w.heap.size+1<wr.heap.size:=by omega
     have hB2:w.heap.size<=wr.heap.size:=by omega
     have hB3:w.heap.size<=wr.heap.size+1:=by omega
     have hbw':b≠wr.heap.size:=by omega
     clear hT hok hbox hN hC hO hv hI hu hpx hox hx HA
     go_upto_region 10 with (fail)
     go_cut [12,13] (fun s12 s13 wx=>s13=.int .i64 P/\AllX w.heap.size g q vo N ops x (.slice A3 t.es.length n3) (.slice A4 t.ks.length n4) (.slice A5 c.length n5) wr s12 wx)
     case first=>
      by_cases hz:P=0
      ·have HZ:Hid (doI N ops.length x=0):=hid (HP.out.trans hz)
       have e8:doK N ops.length x=aftK N x (txD ops.length):=if_pos HZ.out
       have e9:doO N ops x=ops++[x]:=if_pos HZ.out
       have HE8:=hid e8
       have HE9:=hid e9
       subst hz
       clear e8 e9
       go_region_held3 (fun W=>(W.cell? ⟨q,0,none⟩=some (.slice A3 t.es.length n3)/\W.cell? ⟨q,1,none⟩=some (.slice A4 t.ks.length n4)/\W.cell? ⟨q,2,none⟩=some (.slice A5 c.length n5)/\W.cell? ⟨q,3,none⟩=some (.slice Ao ops.length no)/\W.cell? ⟨q,4,none⟩=some (.slice An N.1.es.length nn)/\W.cell? ⟨q,5,none⟩=some (.slice Bn N.1.ks.length mn)/\W.cell? ⟨q,6,none⟩=some (.slice Cn N.2.length kn))/\W.cell? ⟨b,off+k*4,none⟩=some (.slice A6 x.path.length c6)/\W.cell? ⟨b,off+k*4+1,none⟩=some (.int .i64 x.act)/\W.cell? ⟨b,off+k*4+2,none⟩=some (.string x.s)/\W.cell? ⟨b,off+k*4+3,none⟩=some (.int .i64 x.n))
        (first|with_reducible exact HKB.out _ HB4.out|with_reducible exact HKB.out _ (HB4.out.alloc HB4.out.size _)|with_reducible exact HKS.out _ _ _ _ _ _ _|exact HKB.out _ (by go_grown)|go_keep)
        (first
         |(go_at_call 30;go_loud ((refine (qZf x _ _ _ _ _ _ _ _ _ _ _ _ _ _ _ _ _ rfl rfl rfl _ (HRD.out _ (by go_grown)).1 (HRD.out _ (by go_grown)).2.1 (HRD.out _ (by go_grown)).2.2.1 (by first|omega|(simp;omega)) HKN.out (by omega) (by omega) hIl (HRD.out _ (by go_grown)).2.2.2 HOX.out HPL.out).mono ?_);rintro e w4 ⟨hR,hb⟩;obtain⟨_,vr',ne',nk',nc',rfl,hN4,hC4,hO4⟩:=hR.resolve_left (fun h=>h.1 HZ.out);obtain⟨An4,nn4,Bn4,mn4,hv1,hv2⟩:=Qj hN4;subst hv1;subst hv2;obtain⟨Cn4,kn4,hv3⟩:=hC4.shape;subst hv3;have hsh4:=OwnP.shape hO4;simp only[List.length_append,List.length_singleton]at hsh4;obtain⟨Ao4,no4,hv4⟩:=hsh4;subst hv4;have HN4:=hid hN4;have HC4:=hid hC4;have HO4:=hid hO4;clear hN4 hC4 hO4 hR;have HB4:Hid (Below wr.heap.size wr w4):=hid (Below.trans (by go_grown) (hb.mono (by first|omega|(simp;done)|(simp;omega))));have hs4:=HB4.out.size;(first|(have HG4:Hid (w4.heap[wr.heap.size]?=some (.cells #[.slice none 0 0,.slice none 0 0,.slice none 0 0,.slice none 0 0,.slice none 0 0,.slice none 0 0,.slice none 0 0] 51 (0,0))):=hid (Kp hb);have HKS:=hid (fun (a b' c' d e' f h:Value)=>HKX.out (((((((((w4.setCell ⟨wr.heap.size,0,none⟩ a).setCell ⟨wr.heap.size,1,none⟩ b').setCell ⟨wr.heap.size,2,none⟩ c').setCell ⟨wr.heap.size,3,none⟩ d).setCell ⟨wr.heap.size,4,none⟩ e').setCell ⟨wr.heap.size,5,none⟩ f).setCell ⟨wr.heap.size,6,none⟩ h))) (((box7 HG4.out a b' c' d e' f h).2.1 q hqw).trans (HB4.out.block q hqr)) (((box7 HG4.out a b' c' d e' f h).2.1 b hbw').trans (HB4.out.block b (by omega))));have k0:w4.cell? ⟨wr.heap.size,0,none⟩=some (.slice none 0 0):=Qa (i:=0) HG4.out;have k1:w4.cell? ⟨wr.heap.size,1,none⟩=some (.slice none 0 0):=Qa (i:=1) HG4.out;have k2:w4.cell? ⟨wr.heap.size,2,none⟩=some (.slice none 0 0):=Qa (i:=2) HG4.out;have k3:w4.cell? ⟨wr.heap.size,3,none⟩=some (.slice none 0 0):=Qa (i:=3) HG4.out;have k4:w4.cell? ⟨wr.heap.size,4,none⟩=some (.slice none 0 0):=Qa (i:=4) HG4.out;have k5:w4.cell? ⟨wr.heap.size,5,none⟩=some (.slice none 0 0):=Qa (i:=5) HG4.out;have k6:w4.cell? ⟨wr.heap.size,6,none⟩=some (.slice none 0 0):=Qa (i:=6) HG4.out;have z0:=Qb (i:=0) HG4.out;have z1:=Qb (i:=1) HG4.out;have z2:=Qb (i:=2) HG4.out;have z3:=Qb (i:=3) HG4.out;have z4:=Qb (i:=4) HG4.out;have z5:=Qb (i:=5) HG4.out;have z6:=Qb (i:=6) HG4.out)|skip);clear hb))
         |fail)
       ·go_wp2_with fail
        go_meet
        case rel=>
         refine⟨rfl,qJf HE8.out HE9.out HB4.out ?_ ?_ ?_ ?_⟩
         ·exact Qp (fun _ _=>rfl) (VU hgr hqr hB1 hvl (Nat.le_refl _)) _ _ _ HN4.out
         ·exact HC4.out.up (fun _ _=>rfl) (VU hgr hqr hB1 hvl (Nat.le_refl _)) fun _ _ _ h=>h
         ·exact HO4.out.mono (by first|exact hB2|exact hB3|(simp;omega))
         ·exact fun b hb=>VU hgr hqr hB1 hvl (Nat.le_refl _) b (HO4.out.lt b hb)
       ·go_wp2_with fail
        go_meet
        case rel=>
         refine⟨rfl,qJg HE8.out HE9.out HG4.out (Nat.le_refl _) hB2 HB4.out ?_ ?_ ?_ ?_⟩
         ·exact Qp (fun _ _=>rfl) (qXk hgr hqr hB1 hvl (by simp)) _ _ _ HN4.out
         ·exact HC4.out.up (fun _ _=>rfl) (qXk hgr hqr hB1 hvl (by simp)) fun _ _ _ h=>h
         ·exact HO4.out.mono (by first|exact hB2|exact hB3|(simp;omega))
         ·exact fun b hb=>qXk hgr hqr hB1 hvl (by simp) b (HO4.out.lt b hb)
      ·have HZ:Hid (doI N ops.length x≠0):=hid (fun e=>hz (HP.out.symm.trans e))
       have e8:doK N ops.length x=N:=if_neg HZ.out
       have e9:doO N ops x=ops:=if_neg HZ.out
       have HE8:=hid e8
       have HE9:=hid e9
       clear e8 e9 hz
       go_region_held3 (fun W=>(W.cell? ⟨q,0,none⟩=some (.slice A3 t.es.length n3)/\W.cell? ⟨q,1,none⟩=some (.slice A4 t.ks.length n4)/\W.cell? ⟨q,2,none⟩=some (.slice A5 c.length n5)/\W.cell? ⟨q,3,none⟩=some (.slice Ao ops.length no)/\W.cell? ⟨q,4,none⟩=some (.slice An N.1.es.length nn)/\W.cell? ⟨q,5,none⟩=some (.slice Bn N.1.ks.length mn)/\W.cell? ⟨q,6,none⟩=some (.slice Cn N.2.length kn))/\W.cell? ⟨b,off+k*4,none⟩=some (.slice A6 x.path.length c6)/\W.cell? ⟨b,off+k*4+1,none⟩=some (.int .i64 x.act)/\W.cell? ⟨b,off+k*4+2,none⟩=some (.string x.s)/\W.cell? ⟨b,off+k*4+3,none⟩=some (.int .i64 x.n))
        (first|with_reducible exact HKB.out _ HB4.out|with_reducible exact HKB.out _ (HB4.out.alloc HB4.out.size _)|with_reducible exact HKS.out _ _ _ _ _ _ _|exact HKB.out _ (by go_grown)|go_keep)
        (first
         |(go_at_call 30;go_loud ((refine (qZf x _ _ _ _ _ _ _ _ _ _ _ _ _ _ _ _ _ rfl rfl rfl _ (HRD.out _ (by go_grown)).1 (HRD.out _ (by go_grown)).2.1 (HRD.out _ (by go_grown)).2.2.1 (by first|omega|(simp;omega)) HKN.out (by omega) (by omega) hIl (HRD.out _ (by go_grown)).2.2.2 HOX.out HPL.out).mono ?_);rintro e w4 ⟨hR,hb⟩;obtain⟨_,he⟩:=hR.resolve_right (fun h=>HZ.out h.1);rw[HP.out]at he;subst he;clear hR;have HB4:Hid (Below wr.heap.size wr w4):=hid (Below.trans (by go_grown) (hb.mono (by first|omega|(simp;done)|(simp;omega))));have hs4:=HB4.out.size;(first|(have HG4:Hid (w4.heap[wr.heap.size]?=some (.cells #[.slice none 0 0,.slice none 0 0,.slice none 0 0,.slice none 0 0,.slice none 0 0,.slice none 0 0,.slice none 0 0] 51 (0,0))):=hid (Kp hb);have HKS:=hid (fun (a b' c' d e' f h:Value)=>HKX.out (((((((((w4.setCell ⟨wr.heap.size,0,none⟩ a).setCell ⟨wr.heap.size,1,none⟩ b').setCell ⟨wr.heap.size,2,none⟩ c').setCell ⟨wr.heap.size,3,none⟩ d).setCell ⟨wr.heap.size,4,none⟩ e').setCell ⟨wr.heap.size,5,none⟩ f).setCell ⟨wr.heap.size,6,none⟩ h))) (((box7 HG4.out a b' c' d e' f h).2.1 q hqw).trans (HB4.out.block q hqr)) (((box7 HG4.out a b' c' d e' f h).2.1 b hbw').trans (HB4.out.block b (by omega))));have k0:w4.cell? ⟨wr.heap.size,0,none⟩=some (.slice none 0 0):=Qa (i:=0) HG4.out;have k1:w4.cell? ⟨wr.heap.size,1,none⟩=some (.slice none 0 0):=Qa (i:=1) HG4.out;have k2:w4.cell? ⟨wr.heap.size,2,none⟩=some (.slice none 0 0):=Qa (i:=2) HG4.out;have k3:w4.cell? ⟨wr.heap.size,3,none⟩=some (.slice none 0 0):=Qa (i:=3) HG4.out;have k4:w4.cell? ⟨wr.heap.size,4,none⟩=some (.slice none 0 0):=Qa (i:=4) HG4.out;have k5:w4.cell? ⟨wr.heap.size,5,none⟩=some (.slice none 0 0):=Qa (i:=5) HG4.out;have k6:w4.cell? ⟨wr.heap.size,6,none⟩=some (.slice none 0 0):=Qa (i:=6) HG4.out;have z0:=Qb (i:=0) HG4.out;have z1:=Qb (i:=1) HG4.out;have z2:=Qb (i:=2) HG4.out;have z3:=Qb (i:=3) HG4.out;have z4:=Qb (i:=4) HG4.out;have z5:=Qb (i:=5) HG4.out;have z6:=Qb (i:=6) HG4.out)|skip);clear hb))
         |fail)
       ·have HKP4:Hid (Keeps (okM wr w.heap.size g q vo) wr w4):=fun b h=>HB4.out.block b h.2.2.2.1
        go_wp2_with fail
        go_meet
        case rel=>
         refine⟨rfl,qJf HE8.out HE9.out HB4.out ?_ ?_ ?_ ?_⟩
         ·exact Qp HKP4.out (fun b h=>(Vo hs4 b h).1) _ _ _ HN.out
         ·exact HC2.out.up HKP4.out (fun b h=>(Vo hs4 b h).1) fun _ _ _ h=>h
         ·exact HO.out.grow OpA.mon HB4.out
         ·exact fun b hb=>(Vo hs4 b (HV.out b hb)).1
       ·have HKP4:Hid (Keeps (okM wr w.heap.size g q vo) wr w4):=fun b h=>HB4.out.block b h.2.2.2.1
        go_wp2_with fail
        go_meet
        case rel=>
         refine⟨rfl,qJg HE8.out HE9.out HG4.out (Nat.le_refl _) hB2 HB4.out ?_ ?_ ?_ ?_⟩
         ·exact Qp HKP4.out (Vo hs4) _ _ _ HN.out
         ·exact HC2.out.up HKP4.out (Vo hs4) fun _ _ _ h=>h
         ·exact HO.out.grow OpA.mon HB4.out
         ·exact fun b hb=>Vo hs4 b (HV.out b hb)
     case rest=>
      obtain⟨rfl,q12,vr',ne',nk',nc',rfl,hq12,hG12,hN12,hC12,hO12,hV12,hbx⟩:=hcut
      obtain⟨wx,hwx⟩:∃ z:World,z=wc:=⟨wc,rfl⟩
      subst hwx
      clear e0 e1 e2 e3 j0 j1 j2 j3 j4 j5 j6
      obtain⟨_,e0,e1,e2,e3⟩:=HKB.out _ hbx
      have hsx:=hbx.size
      have HTX:=hid (HT.out.grow hbx)
      have HBX2:=hid hbx
      obtain⟨An2,nn2,Bn2,mn2,e4,e5⟩:=Qj hN12
      subst e4;subst e5
      obtain⟨Cn2,kn2,e6⟩:=hC12.shape
      subst e6
      obtain⟨Ao2,no2,e7⟩:=OwnP.shape hO12
      subst e7
      have HN12:=hid hN12
      have HC12:=hid hC12
      have HO12:=hid hO12
      have HV12:=hid hV12
      have HG12:=hid hG12
      have hql12:=lt_of_block hG12
      have hPP:(P != P)=false:=by simp
      have HPA:Hid (SlA wx (fun b=>b≠g/\b<wx.heap.size/\vo.ownBlock≠some b) 1 StE (.slice A6 x.path.length c6) x.path):=hid ((Zk.1 (HRD.out _ hbx).2.2.2).up (fun _ _=>rfl) (fun b' hb'=>⟨by omega,by omega,fun e=>by have:=hvB b' e;omega⟩) fun _ _ _ h=>h)
      clear hbx hN12 hC12 hO12 hV12 hG12
      go_wp2_with fail
      refine (qJc x _ _ HTX.out HKN.out (by omega) (by omega) hIl HPA.out HOX.out HPL.out).mono ?_
      rintro e w2 hD
      have HD:=hid hD
      have hret:=hD.ret
      rw[HP.out]at hret
      subst hret
      have hs2:=hD.below.size
      have hbq:w2.heap[q]?=some (.cells #[(.slice A3 t.es.length n3),(.slice A4 t.ks.length n4),(.slice A5 c.length n5),(.slice Ao ops.length no),(.slice An N.1.es.length nn),(.slice Bn N.1.ks.length mn),(.slice Cn N.2.length kn)] 51 (0,0)):=(hD.keep q (by omega) hgq (fun e=>(HOK.out q (HT.out.ob q e)).1 rfl)).trans ((HBX2.out.block q hqr).trans HBX.out)
      have hb12:w2.heap[q12]?=some (.cells #[(.slice A3 t.es.length n3),(.slice A4 t.ks.length n4),(.slice A5 c.length n5),(.slice Ao2 (doO N ops x).length no2),(.slice An2 (doK N ops.length x).1.es.length nn2),(.slice Bn2 (doK N ops.length x).1.ks.length mn2),(.slice Cn2 (doK N ops.length x).2.length kn2)] 51 (0,0)):=(hD.keep q12 hql12 (by omega) (fun e=>by have:=hvl q12 e;omega)).trans HG12.out
      have HBQ:=hid hbq
      have hq12q:q12≠q:=by omega
      have HBD:Hid (Below (w.heap.size+2) ((w.alloc (.cells #[.slice A3 t.es.length n3,.slice A4 t.ks.length n4,.slice A5 c.length n5] 29)).alloc (.cells #[.slice none 0 0,.slice none 0 0,.slice none 0 0,.slice none 0 0,.slice none 0 0,.slice none 0 0,.slice none 0 0] 51)) w2):=hid ((HB.out.trans (HBX2.out.mono (by omega))).trans (hD.below.mono (by omega)))
      obtain⟨j0,j1,j2,j3,j4,j5,j6⟩:=bx7 hb12
      obtain⟨k0,k1,k2,k3,k4,k5,k6,z0,z1,z2,z3,z4,z5,z6⟩:=bz7 hbq
      clear hD hbq hb12
      go_wp2_with fail
      go_roundw
      case rel=>exact⟨k+1,by omega,by go_num,by rw[HTK2.out];exact AllI.step HOK.out HD.out HN12.out HC12.out HO12.out HV12.out (by omega) (by omega) hgq (by omega) (by omega) hvB HBQ.out,(box7 HBQ.out _ _ _ _ _ _ _).2.2.2 _ _ (by omega) HBD.out⟩
      case measure=>first|(simp[intOf];done)|(simp[intOf];omega)
    ·have hke:k=l.length:=by omega
     subst hke
     rw[List.take_of_length_le (Nat.le_refl _)]at HA
     obtain⟨okp,vv,vo,vr,ne,nk,nc,hT,hok,hbox,hN,hC,hO,hv⟩:=HA.out
     have hI:=(KF (t,c) l).facts HK.out hz hz2
     have hIl:=(KF (t,c) l).len
     have hgr:=hT.lt
     have HT:=hid hT
     have HOK:=hid hok
     obtain⟨⟨ops,N⟩,HS⟩:∃ S,Hid (txS (t,c) l=S):=⟨_,rfl⟩
     rw[HS.out]at hT hN hC hO hI hIl HT
     simp only at hT hN hC hO hI hIl HT
     obtain⟨An,nn,Bn,mn,e1,e2⟩:=Qj hN
     subst e1;subst e2
     obtain⟨Cn,kn,e3⟩:=hC.shape
     subst e3
     obtain⟨Ao,no,e4⟩:=OwnP.shape hO
     subst e4
     have HN:=hid hN
     have HC2:=hid hC
     have HO:=hid hO
     have HV:=hid hv
     have HBX:=hid hbox
     obtain⟨hBw,hsr,hG5,_⟩:=HX.out _ HB.out
     have HG5:=hid hG5
     have HBW:=hid hBw
     have hqk:q≠w.heap.size+1:=by omega
     have hqr:=lt_of_block hbox
     obtain⟨j0,j1,j2,j3,j4,j5,j6⟩:=bx7 hbox
     obtain⟨k0,k1,k2,k3,k4,k5,k6,z0,z1,z2,z3,z4,z5,z6⟩:=bz7 hG5
     have HS7:Hid ((wr.cell? ⟨q,0,none⟩=some (.slice A3 t.es.length n3)/\wr.cell? ⟨q,1,none⟩=some (.slice A4 t.ks.length n4)/\wr.cell? ⟨q,2,none⟩=some (.slice A5 c.length n5)/\wr.cell? ⟨q,3,none⟩=some (.slice Ao ops.length no)/\wr.cell? ⟨q,4,none⟩=some (.slice An N.1.es.length nn)/\wr.cell? ⟨q,5,none⟩=some (.slice Bn N.1.ks.length mn)/\wr.cell? ⟨q,6,none⟩=some (.slice Cn N.2.length kn))):=⟨j0,j1,j2,j3,j4,j5,j6⟩
     have HKQ:=hid (fun (a b c d e f h:Value)=>qJh HS7.out (box7 HG5.out a b c d e f h).2.1 hqk)
     clear hbox hG5 hBw hT hok hN hC hO hv
     go_upto_region 15 with (fail)
     go_region_held3 (fun W=>(W.cell? ⟨q,0,none⟩=some (.slice A3 t.es.length n3)/\W.cell? ⟨q,1,none⟩=some (.slice A4 t.ks.length n4)/\W.cell? ⟨q,2,none⟩=some (.slice A5 c.length n5)/\W.cell? ⟨q,3,none⟩=some (.slice Ao ops.length no)/\W.cell? ⟨q,4,none⟩=some (.slice An N.1.es.length nn)/\W.cell? ⟨q,5,none⟩=some (.slice Bn N.1.ks.length mn)/\W.cell? ⟨q,6,none⟩=some (.slice Cn N.2.length kn)))
      (first|with_reducible exact HKQ.out _ _ _ _ _ _ _|with_reducible exact HS7.out|go_keep)
      (fail)
     all_goals
      go_wp2_with fail
      have hXX:=box7 HG5.out (.slice A3 t.es.length n3) (.slice A4 t.ks.length n4) (.slice A5 c.length n5) (.slice Ao ops.length no) (.slice An N.1.es.length nn) (.slice Bn N.1.ks.length mn) (.slice Cn N.2.length kn)
      have HXX:=hid hXX
      clear hXX
      have k1:Keeps (okM wr w.heap.size g q vo) wr (((((((((wr.setCell ⟨(w.heap.size+1),0,none⟩ (.slice A3 t.es.length n3)).setCell ⟨(w.heap.size+1),1,none⟩ (.slice A4 t.ks.length n4)).setCell ⟨(w.heap.size+1),2,none⟩ (.slice A5 c.length n5)).setCell ⟨(w.heap.size+1),3,none⟩ (.slice Ao ops.length no)).setCell ⟨(w.heap.size+1),4,none⟩ (.slice An N.1.es.length nn)).setCell ⟨(w.heap.size+1),5,none⟩ (.slice Bn N.1.ks.length mn)).setCell ⟨(w.heap.size+1),6,none⟩ (.slice Cn N.2.length kn)))):=fun b hb=>HXX.out.2.1 b hb.2.2.2.2
      have hsX:=HXX.out.2.2.1
      have hT2:=HT.out.keep (okq:=okp) (fun b hb hl=>HXX.out.2.1 b (by rcases hb with hb|hb;exact (HOK.out b hb).2;omega)) (Nat.le_of_eq hsX.symm) (fun b hb _=>hb)
      have hN2:=QQ (Qp (ok':=fun b=>b<_) k1 (fun b hb=>(show b<_ by rw[hsX];exact hb.2.2.2.1)) _ _ _ HN.out) (fun _ hb=>hb) ((Below.refl _ _).drew)
      have hC2:=(HC2.out.up (ok':=fun b=>b<_) k1 (fun b hb=>(show b<_ by rw[hsX];exact hb.2.2.2.1)) (fun _ _ _ h=>h)).slp (fun _ hb=>hb) ((Below.refl _ _).drew)
      have hO2:OwnD (((((((((wr.setCell ⟨(w.heap.size+1),0,none⟩ (.slice A3 t.es.length n3)).setCell ⟨(w.heap.size+1),1,none⟩ (.slice A4 t.ks.length n4)).setCell ⟨(w.heap.size+1),2,none⟩ (.slice A5 c.length n5)).setCell ⟨(w.heap.size+1),3,none⟩ (.slice Ao ops.length no)).setCell ⟨(w.heap.size+1),4,none⟩ (.slice An N.1.es.length nn)).setCell ⟨(w.heap.size+1),5,none⟩ (.slice Bn N.1.ks.length mn)).setCell ⟨(w.heap.size+1),6,none⟩ (.slice Cn N.2.length kn)))) w.heap.size 65 4 OpA (fun b=>b<w.heap.size) (.slice Ao ops.length no) ops:=(OwnP.keep (w':=((((((((wr.setCell ⟨(w.heap.size+1),0,none⟩ (.slice A3 t.es.length n3)).setCell ⟨(w.heap.size+1),1,none⟩ (.slice A4 t.ks.length n4)).setCell ⟨(w.heap.size+1),2,none⟩ (.slice A5 c.length n5)).setCell ⟨(w.heap.size+1),3,none⟩ (.slice Ao ops.length no)).setCell ⟨(w.heap.size+1),4,none⟩ (.slice An N.1.es.length nn)).setCell ⟨(w.heap.size+1),5,none⟩ (.slice Bn N.1.ks.length mn)).setCell ⟨(w.heap.size+1),6,none⟩ (.slice Cn N.2.length kn)))) HO.out fun b hb=>k1 b (HV.out b hb)).imp fun x _ cs hx=>OpA.mon.up (fun b hb=>HXX.out.2.1 b (by have:=hb.1;omega)) (fun b hb=>⟨hb.1,by rw[hsX];exact hb.2.1,hb.2.2⟩) hx
      have HO3:=hid ((OwnD.opl hO2 (by unfold Big;omega)).up ((Below.refl _ _).drew))
      have HT2:=hid (hT2.grow ((Below.refl _ _).drew))
      have HN2:=hid hN2
      have HC3:=hid hC2
      clear k1 hsX hT2 hN2 hC2 hO2
      refine KE (fun W'=>(W'.heap[w.heap.size+1]?=some (.cells #[(.slice A3 t.es.length n3),(.slice A4 t.ks.length n4),(.slice A5 c.length n5),(.slice Ao ops.length no),(.slice An N.1.es.length nn),(.slice Bn N.1.ks.length mn),(.slice Cn N.2.length kn)] 51 (0,0))/\(Below w.heap.size w W'/\TxB W' g okp vv vo (t,c) N ops/\N.1.rd W' W'.heap.size (.slice An N.1.es.length nn) (.slice Bn N.1.ks.length mn)/\SlP W' W'.heap.size 3 SpE (.slice Cn N.2.length kn) N.2/\OpL W' (.slice Ao ops.length no) ops))) ⟨drw HXX.out.1,⟨(HXX.out.2.2.2 _ _ (by omega) HBW.out).drew,HT2.out,HN2.out,HC3.out,HO3.out⟩⟩ ?_
      rintro Wz ⟨hz,hx⟩
      obtain⟨r0,r1,r2,r3,r4,r5,r6⟩:=bx7 hz
      refine bodyPost_ret (v:=.tuple #[.pointer (some ⟨g,0,none⟩),.agg #[(.slice A3 t.es.length n3),(.slice A4 t.ks.length n4),(.slice A5 c.length n5),(.slice Ao ops.length no),(.slice An N.1.es.length nn),(.slice Bn N.1.ks.length mn),(.slice Cn N.2.length kn)],.bool true]) (by simp[results,Tryz.results20,go_sem,r0,r1,r2,r3,r4,r5,r6]<;>rfl) rfl ?_
      exact⟨.inr ⟨HE.out,g,okp,vv,vo,_,_,_,_,_,_,_,rfl,by omega,by rw[HS.out];exact hx.2.1,(HC.out _ hx.1).1,(HC.out _ hx.1).2,by rw[HS.out];exact hx.2.2.1,by rw[HS.out];exact hx.2.2.2.1,by rw[HS.out];exact hx.2.2.2.2⟩,hx.1⟩
end Go.Proofs.YtbcoelggdikipaaGreat
