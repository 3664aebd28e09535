/- What the laws need. No condition but those that each lemma states. -/
import Derived.Test.YtidebdbjekijkaaGreatUd12
import Derived.Test.YtidebdbjekijkaaGreatUd9
import Derived.Test.YtidebdbjekijkaaGreatUd10
import Derived.Test.YtidebdbjekijkaaGreatUd2
set_option maxRecDepth 100000
set_option maxHeartbeats 8000000
set_option linter.unusedSimpArgs false
namespace Go.Proofs.YtidebdbjekijkaaGreat
open Go.RowKit
def nmD (dc fr:Int)(k:Nat):Dt:=⟨dc,fr+(k:Int)⟩
theorem zJi {dc fr:Int}{i j:Nat}(h:nmD dc fr i=nmD dc fr j):i=j:=by
 have:=congrArg Dt.n h
 simp only[nmD]at this
 omega
def delI (G:Kn)(ops:List Opr)(dc fr:Int):Int:=
 if ops.length=0 then 7 else if fr<1∨1099511627776<fr∨Dt.right ⟨dc,fr+(ops.length:Int)-1⟩=false then 1 else if someD G.2 dc fr ops.length=true then 1 else 0
def delK (G:Kn)(ops:List Opr)(dc fr:Int):Kn:=if delI G ops dc fr=0 then (chS (nmD dc fr) G ops).2.2 else kn0
theorem ZA {G:Kn}{ops:List Opr}{dc fr:Int}(h:delI G ops dc fr≠0):delK G ops dc fr=kn0:=if_neg h
theorem qYs {G:Kn}{ops:List Opr}{dc fr:Int}(h:delI G ops dc fr=0):delK G ops dc fr=(chS (nmD dc fr) G ops).2.2:=if_pos h
structure DelF (G:Kn)(ops:List Opr)(dc fr:Int):Prop where
 rk:∀ k,k<ops.length->(nmD dc fr k).right=true
 no:∀ k,k<ops.length->hasC G.2 (nmD dc fr k)=false
 okn:okTx (nmD dc fr) G ops
 inv:∀ k,k<=ops.length->ChI (nmD dc fr) G k (chS (nmD dc fr) G (ops.take k))
 eq:jn G (chS (nmD dc fr) G ops).2.2=(chS (nmD dc fr) G ops).2.1
 rd:∀ p,readI (chS txD G ops).2.1.1 p=readI (chS (nmD dc fr) G ops).2.1.1 p/\readV (chS txD G ops).2.1.1 p=readV (chS (nmD dc fr) G ops).2.1.1 p
theorem zX6 {dc fr:Int}{n:Nat}(f1:1<=fr)(h:Dt.right ⟨dc,fr+(n:Int)-1⟩=true)(k:Nat)(hk:k<n):(nmD dc fr k).right=true:=by
 unfold Dt.right at h ⊢
 rw[decide_eq_true_eq]at h ⊢
 simp only[nmD]at h ⊢
 omega
theorem qXg {G:Kn}{ops:List Opr}{dc fr:Int}(hG:KOk G)(hz:G.1.sz<=40)(hl:ops.length<=12)(hown:∀ k,k<12->hasC G.2 (txD k)=false)(hok:okTx txD G ops)(h:delI G ops dc fr=0):DelF G ops dc fr:=by
 unfold delI at h
 split at h
 ·cases h
 ·split at h
  ·cases h
  ·rename_i h0 h1
   split at h
   ·cases h
   ·rename_i h2
    have f1:1<=fr:=by
     rcases Int.lt_or_le fr 1 with h|h
     ·exact absurd (.inl h) h1
     ·exact h
    have hr:Dt.right ⟨dc,fr+(ops.length:Int)-1⟩=true:=by
     cases hh:Dt.right ⟨dc,fr+(ops.length:Int)-1⟩
     ·exact absurd (.inr (.inr hh)) h1
     ·rfl
    have rk:=zX6 f1 hr
    have no:∀ k,k<ops.length->hasC G.2 (nmD dc fr k)=false:=fun k hk=>by
     cases hh:hasC G.2 (nmD dc fr k)
     ·rfl
     ·exact absurd (Zz.2 ⟨k,hk,hh⟩) h2
    have hc:=zZ2 (nm:=nmD dc fr) hG hz hl hown hok rk no (fun _ _=>zJi)
    exact⟨rk,no,(hc []).1,VI hG (by omega) hl (hc []).1,(hc []).2.1,fun p=>(hc p).2.2⟩
def DelL (B:Nat)(wr:World)(s:Nat×Kn×Kn):Prop:=
 ∃ ne nk nc oe ok oc,wr.heap[B]?=some (.cells #[ne,nk,nc] 29 (0,0))/\wr.heap[B+1]?=some (.cells #[oe,ok,oc] 29 (0,0))/\s.2.1.1.rda wr (fun b=>b≠B/\b≠B+1/\b<wr.heap.size) ne nk/\SlA wr (fun b=>b≠B/\b≠B+1/\b<wr.heap.size) 3 SpE nc s.2.1.2 /\
  s.2.2.1.rda wr (fun b=>B+2<=b/\b<wr.heap.size) oe ok/\SlA wr (fun b=>B+2<=b/\b<wr.heap.size) 3 SpE oc s.2.2.2
theorem K9 {w:World}{G N:Kn}{ops:List Opr}{g:Nat}{okp:Nat->Prop}{v:Nat->V3}{vo:Value}(dc fr:Int)(h:TxB w g okp v vo G N ops)(hG:KOk G)(hz:G.1.sz<=40)(hz2:G.2.length<=40)(hl:ops.length<=12)(hF:delI G ops dc fr=0->DelF G ops dc fr)(hdc:I64 dc)(_:I64 fr) :
  Calls Tryz.prog 45 #[.pointer (some ⟨g,0,none⟩),.int .i64 dc,.int .i64 fr] w (RetCE w (delK G ops dc fr).1 (delK G ops dc fr).2 (delI G ops dc fr)):=by
 have HST:=hid h
 have HF:=hid hF
 have HGK:=hid hG
 have hgl:=h.lt
 obtain⟨Ao,no,hvo⟩:=OwnP.shape h.own
 subst hvo
 obtain⟨a0,b0,c0,hv0⟩:∃ a b c,v 0=(a,b,c):=⟨_,_,_,rfl⟩
 have hrG:=h.rdG
 have hsG:=h.slG
 rw[hv0]at hrG hsG
 obtain⟨Ag,ng,Bg,mg,e1,e2⟩:=Qk hrG
 obtain⟨Cg,kg,e3,_⟩:=hsG
 simp only at e1 e2 e3
 subst e1;subst e2;subst e3
 have HV0:=hid hv0
 have HOL:=hid (h.opl (by unfold Big;omega))
 have HX:Hid (∀ W,Below (w.heap.size+1) (w.alloc (.cells #[.slice none 0 0,.slice none 0 0,.slice none 0 0] 29)) W->(Below w.heap.size w W/\w.heap.size+1<=W.heap.size/\W.heap[w.heap.size]?=some (.cells #[.slice none 0 0,.slice none 0 0,.slice none 0 0] 29 (0,0))/\W.cell? ⟨g,0,none⟩=some (.slice Ag G.1.es.length ng)/\W.cell? ⟨g,1,none⟩=some (.slice Bg G.1.ks.length mg)/\W.cell? ⟨g,2,none⟩=some (.slice Cg G.2.length kg)/\W.cell? ⟨g,6,none⟩=some (.slice Ao ops.length no) /\
   G.1.rd W W.heap.size (.slice Ag G.1.es.length ng) (.slice Bg G.1.ks.length mg)/\SlP W W.heap.size 3 SpE (.slice Cg G.2.length kg) G.2)):=fun W hW=>by
  have hB:Below w.heap.size w W:=((Below.refl _ w).alloc (Nat.le_refl _) _).trans (hW.mono (by omega))
  have hs:=HST.out.grow hB
  have r1:=hs.rdG
  have r2:=hs.slG
  obtain⟨d0,d1,d2,_,_,_,d6⟩:=hs.cells
  rw[HV0.out]at r1 r2 d0 d1 d2
  exact⟨hB,by have:=hW.size;simpa using this,(hW.block _ (by omega)).trans (Qc rfl),d0,d1,d2,d6,r1,r2⟩
 clear h hG hrG hv0 hF
 have hgw:g≠w.heap.size:=by omega
 have hgw':w.heap.size≠g:=by omega
 go_enter Tryz.func45,Tryz.ntmps45
 by_cases h0:ops.length=0
 ·have hE:delI G ops dc fr=7:=if_pos h0
  have h0i:((ops.length:Int)==0)=true:=by simp[h0]
  have h0j:decide ((ops.length:Int)=0)=true:=by simp[h0]
  clear h0
  have HDI:=hid hE
  have HKN:=hid (ZA (by rw[HDI.out];decide))
  clear hE
  obtain⟨hBx,hsx,hGx,d0,d1,d2,d6,_,_⟩:=HX.out _ (Below.refl _ _)
  have HBX:=hid hBx
  have HGX:=hid hGx
  obtain⟨k0,k1,k2,z0,z1,z2⟩:=bz3 hGx
  clear hBx hGx
  go_wp2_with fail
  obtain⟨r0,r1,r2,_⟩:=box3 HGX.out (.slice none 0 0) (.slice none 0 0) (.slice none 0 0)
  refine bodyPost_ret (v:=.tuple #[.agg #[.slice none 0 0,.slice none 0 0,.slice none 0 0],.int .i64 7]) (by simp[results,Tryz.results45,go_sem,r0,r1,r2]<;>rfl) rfl ⟨.slice none 0 0,.slice none 0 0,.slice none 0 0,by first|rfl|rw[HDI.out],?_,?_,?_⟩
  ·rw[HKN.out];exact Qo _ _
  ·rw[HKN.out];show SlA _ _ 3 SpE (.slice none 0 0) ([]:List Sp)
   exact SlA.nil
  ·first|with_reducible exact HBX.out|exact ((HBX.out.setCell (p:=⟨w.heap.size,0,none⟩) (by simp) _).setCell (p:=⟨w.heap.size,1,none⟩) (by simp) _).setCell (p:=⟨w.heap.size,2,none⟩) (by simp) _
 have h0i:((ops.length:Int)==0)=false:=by simpa using h0
 have h0j:decide ((ops.length:Int)=0)=false:=by simpa using h0
 have hlp:(0:Int)<(ops.length:Int):=by omega
 by_cases h1:fr<1
 ·have hE:delI G ops dc fr=1:=(if_neg h0).trans (if_pos (.inl h1))
  have h1j:decide (fr<1)=true:=decide_eq_true h1
  have HDI:=hid hE
  have HKN:=hid (ZA (by rw[HDI.out];decide))
  clear hE
  obtain⟨hBx,hsx,hGx,d0,d1,d2,d6,_,_⟩:=HX.out _ (Below.refl _ _)
  have HBX:=hid hBx
  have HGX:=hid hGx
  obtain⟨k0,k1,k2,z0,z1,z2⟩:=bz3 hGx
  clear hBx hGx
  go_wp2_with fail
  obtain⟨r0,r1,r2,_⟩:=box3 HGX.out (.slice none 0 0) (.slice none 0 0) (.slice none 0 0)
  refine bodyPost_ret (v:=.tuple #[.agg #[.slice none 0 0,.slice none 0 0,.slice none 0 0],.int .i64 1]) (by simp[results,Tryz.results45,go_sem,r0,r1,r2]<;>rfl) rfl ⟨.slice none 0 0,.slice none 0 0,.slice none 0 0,by first|rfl|rw[HDI.out],?_,?_,?_⟩
  ·rw[HKN.out];exact Qo _ _
  ·rw[HKN.out];show SlA _ _ 3 SpE (.slice none 0 0) ([]:List Sp)
   exact SlA.nil
  ·first|with_reducible exact HBX.out|exact ((HBX.out.setCell (p:=⟨w.heap.size,0,none⟩) (by simp) _).setCell (p:=⟨w.heap.size,1,none⟩) (by simp) _).setCell (p:=⟨w.heap.size,2,none⟩) (by simp) _
 have h1j:decide (fr<1)=false:=decide_eq_false h1
 by_cases h2:1099511627776<fr
 ·have hE:delI G ops dc fr=1:=(if_neg h0).trans (if_pos (.inr (.inl h2)))
  have h2j:decide (1099511627776<fr)=true:=decide_eq_true h2
  have HDI:=hid hE
  have HKN:=hid (ZA (by rw[HDI.out];decide))
  clear hE
  obtain⟨hBx,hsx,hGx,d0,d1,d2,d6,_,_⟩:=HX.out _ (Below.refl _ _)
  have HBX:=hid hBx
  have HGX:=hid hGx
  obtain⟨k0,k1,k2,z0,z1,z2⟩:=bz3 hGx
  clear hBx hGx
  go_wp2_with fail
  obtain⟨r0,r1,r2,_⟩:=box3 HGX.out (.slice none 0 0) (.slice none 0 0) (.slice none 0 0)
  refine bodyPost_ret (v:=.tuple #[.agg #[.slice none 0 0,.slice none 0 0,.slice none 0 0],.int .i64 1]) (by simp[results,Tryz.results45,go_sem,r0,r1,r2]<;>rfl) rfl ⟨.slice none 0 0,.slice none 0 0,.slice none 0 0,by first|rfl|rw[HDI.out],?_,?_,?_⟩
  ·rw[HKN.out];exact Qo _ _
  ·rw[HKN.out];show SlA _ _ 3 SpE (.slice none 0 0) ([]:List Sp)
   exact SlA.nil
  ·first|with_reducible exact HBX.out|exact ((HBX.out.setCell (p:=⟨w.heap.size,0,none⟩) (by simp) _).setCell (p:=⟨w.heap.size,1,none⟩) (by simp) _).setCell (p:=⟨w.heap.size,2,none⟩) (by simp) _
 have h2j:decide (1099511627776<fr)=false:=decide_eq_false h2
 have hw1:IntKind.i64.wrap (fr+(ops.length:Int))=fr+(ops.length:Int):=IntWalk.i64_in _ (by omega)
 have hw2:IntKind.i64.wrap (fr+(ops.length:Int)-1)=fr+(ops.length:Int)-1:=IntWalk.i64_in _ (by omega)
 obtain⟨R,HR⟩:∃ q,Hid (Dt.right ⟨dc,fr+(ops.length:Int)-1⟩=q):=⟨_,rfl⟩
 obtain⟨_,hs0,_,d0,d1,d2,d6,_,_⟩:=HX.out _ (Below.refl _ _)
 go_wp2_with fail
 refine (QA ⟨dc,fr+(ops.length:Int)-1⟩ _).mono ?_
 rw[HR.out]
 rintro e w1 ⟨rfl,hb1⟩
 have HB1:=hid (hb1.mono (show w.heap.size+1<=_ by simp))
 clear hb1 d0 d1 d2 d6 hs0
 cases R
 ·have hE:delI G ops dc fr=1:=(if_neg h0).trans (if_pos (.inr (.inr HR.out)))
  have HDI:=hid hE
  have HKN:=hid (ZA (by rw[HDI.out];decide))
  clear hE
  obtain⟨hBx,hsx,hGx,d0,d1,d2,d6,_,_⟩:=HX.out _ HB1.out
  have HBX:=hid hBx
  have HGX:=hid hGx
  obtain⟨k0,k1,k2,z0,z1,z2⟩:=bz3 hGx
  clear hBx hGx
  go_wp2_with fail
  obtain⟨r0,r1,r2,_⟩:=box3 HGX.out (.slice none 0 0) (.slice none 0 0) (.slice none 0 0)
  refine bodyPost_ret (v:=.tuple #[.agg #[.slice none 0 0,.slice none 0 0,.slice none 0 0],.int .i64 1]) (by simp[results,Tryz.results45,go_sem,r0,r1,r2]<;>rfl) rfl ⟨.slice none 0 0,.slice none 0 0,.slice none 0 0,by first|rfl|rw[HDI.out],?_,?_,?_⟩
  ·rw[HKN.out];exact Qo _ _
  ·rw[HKN.out];show SlA _ _ 3 SpE (.slice none 0 0) ([]:List Sp)
   exact SlA.nil
  ·first|with_reducible exact HBX.out|exact ((HBX.out.setCell (p:=⟨w.heap.size,0,none⟩) (by simp) _).setCell (p:=⟨w.heap.size,1,none⟩) (by simp) _).setCell (p:=⟨w.heap.size,2,none⟩) (by simp) _
 have hR0:Dt.right ⟨dc,fr⟩=true:=by
  have h:=zX6 (by omega) HR.out 0 (by omega)
  simpa[nmD] using h
 have HR0:=hid hR0
 clear hR0
 obtain⟨_,hs1,_,d0,d1,d2,d6,_,_⟩:=HX.out _ HB1.out
 go_wp2_with fail
 refine (VJ dc fr (fr+(ops.length:Int)-1) _ HR0.out HR.out (by omega)).mono ?_
 rintro e w2 ⟨vn,rfl,hsn,hb2⟩
 obtain⟨An,nn,hv2⟩:=hsn.shape
 subst hv2
 have HB2:=hid (HB1.out.trans (hb2.mono hs1))
 have HSN:=hid (hsn.slp (fun b hb=>hb.2) (Below.refl _ _))
 clear hb2 d0 d1 d2 d6 hsn
 have HAP:=hid (KG HR0.out HR.out (by omega))
 have HML:=hid ((qZ2 (c:=G.2) (dc:=dc) (fr:=fr) (n:=ops.length) HGK.out.ap HR0.out HR.out (by omega)).1)
 have hml:(ctxBy [⟨dc,fr,fr+(ops.length:Int)-1⟩] G.2 1).length<=Big:=by have:=Ys [⟨dc,fr,fr+(ops.length:Int)-1⟩] G.2 1;unfold Big at *;simp at *;omega
 obtain⟨M,HM⟩:∃ q,Hid (ctxBy [⟨dc,fr,fr+(ops.length:Int)-1⟩] G.2 1=q):=⟨_,rfl⟩
 rw[HM.out]at hml
 obtain⟨_,hs2,_,d0,d1,d2,d6,_,rs2⟩:=HX.out _ HB2.out
 go_wp2_with fail
 refine (qZ1 [⟨dc,fr,fr+(ops.length:Int)-1⟩] G.2 _ _ _ HSN.out rs2 HAP.out HGK.out.ap (by simp) (by omega)).mono ?_
 rw[HM.out]
 rintro e w3 ⟨vm,rfl,hom,hb3⟩
 obtain⟨Am,nm,hv3⟩:=OwnP.shape hom
 subst hv3
 have HB3:=hid (HB2.out.trans (hb3.mono hs2))
 clear hb3 d0 d1 d2 d6 hom rs2
 cases hsd:someD G.2 dc fr ops.length
 case true=>
  have hE:delI G ops dc fr=1:=(if_neg h0).trans ((if_neg (by rw[HR.out];simp;omega)).trans (if_pos hsd))
  have hmj:(0:Int)<(M.length:Int):=by have h:=HML.out.2 hsd;rw[HM.out]at h;omega
  have hmk:decide ((0:Int)<(M.length:Int))=true:=decide_eq_true hmj
  have hmn:0<M.length:=by omega
  have hmd:decide (0<M.length)=true:=decide_eq_true hmn
  have HDI:=hid hE
  have HKN:=hid (ZA (by rw[HDI.out];decide))
  clear hE
  obtain⟨hBx,hsx,hGx,d0,d1,d2,d6,_,_⟩:=HX.out _ HB3.out
  have HBX:=hid hBx
  have HGX:=hid hGx
  obtain⟨k0,k1,k2,z0,z1,z2⟩:=bz3 hGx
  clear hBx hGx
  go_wp2_with fail
  obtain⟨r0,r1,r2,_⟩:=box3 HGX.out (.slice none 0 0) (.slice none 0 0) (.slice none 0 0)
  refine bodyPost_ret (v:=.tuple #[.agg #[.slice none 0 0,.slice none 0 0,.slice none 0 0],.int .i64 1]) (by simp[results,Tryz.results45,go_sem,r0,r1,r2]<;>rfl) rfl ⟨.slice none 0 0,.slice none 0 0,.slice none 0 0,by first|rfl|rw[HDI.out],?_,?_,?_⟩
  ·rw[HKN.out];exact Qo _ _
  ·rw[HKN.out];show SlA _ _ 3 SpE (.slice none 0 0) ([]:List Sp)
   exact SlA.nil
  ·first|with_reducible exact HBX.out|exact ((HBX.out.setCell (p:=⟨w.heap.size,0,none⟩) (by simp) _).setCell (p:=⟨w.heap.size,1,none⟩) (by simp) _).setCell (p:=⟨w.heap.size,2,none⟩) (by simp) _
 have hE:delI G ops dc fr=0:=(if_neg h0).trans ((if_neg (by rw[HR.out];simp;omega)).trans (if_neg (by rw[hsd];simp)))
 have hmj:¬(0:Int)<(M.length:Int):=fun hh=>by have h:=HML.out.1 (by rw[HM.out];omega);rw[hsd]at h;cases h
 have hmk:decide ((0:Int)<(M.length:Int))=false:=decide_eq_false hmj
 have hmn:¬0<M.length:=by omega
 have hmd:decide (0<M.length)=false:=decide_eq_false hmn
 have HDI:=hid hE
 have HKN:=hid (qYs hE)
 have HD:=hid (HF.out hE)
 clear hE hsd HML HAP HSN HR HR0 HF
 obtain⟨hB3,hs3,_,d0,d1,d2,d6,rr3,rs3⟩:=HX.out _ HB3.out
 have hgl3:g<w3.heap.size:=by omega
 have hne3:g≠w3.heap.size:=by omega
 have hne4:g≠w3.heap.size+1:=by omega
 have hne5:w3.heap.size+1≠g:=by omega
 have hne6:w3.heap.size≠g:=by omega
 have HB3W:=hid hB3
 have HRR3:=hid (qYw G.1 _ _ |>.1 rr3)
 have HRS3:=hid (Zn.1 rs3)
 clear hB3 rr3 rs3
 go_wp2_with fail
 go_loopw [82] (fun i wr=>∃ k:Nat,k<=ops.length/\i=.int .i64 k/\DelL w3.heap.size wr (chS (nmD dc fr) G (ops.take k))/\Below w3.heap.size w3 wr) (fun i _=>ops.length-(intOf i).toNat)
 case atStart=>
  have e0:chS (nmD dc fr) G (ops.take 0)=(0,G,kn0):=rfl
  have k1:Keeps (fun b=>b<w3.heap.size) w3 ((w3.alloc (.cells #[.slice Ag G.1.es.length ng,.slice Bg G.1.ks.length mg,.slice Cg G.2.length kg] 29)).alloc (.cells #[.slice none 0 0,.slice none 0 0,.slice none 0 0] 29)):=fun b hb=>(Qg (by simp;omega)).trans (Qg hb)
  have k2:∀ b,b<w3.heap.size->(b≠w3.heap.size/\b≠w3.heap.size+1/\b<((w3.alloc (.cells #[.slice Ag G.1.es.length ng,.slice Bg G.1.ks.length mg,.slice Cg G.2.length kg] 29)).alloc (.cells #[.slice none 0 0,.slice none 0 0,.slice none 0 0] 29)).heap.size):=fun b hb=>⟨by omega,by omega,by simp;omega⟩
  refine⟨0,Nat.zero_le _,rfl,?_,((Below.refl _ w3).alloc (Nat.le_refl _) _).alloc (by simp) _⟩
  rw[e0]
  exact⟨_,_,_,_,_,_,(Qg (by simp)).trans (Qc rfl),Qc (by simp),Qp k1 k2 _ _ _ HRR3.out,HRS3.out.up k1 k2 (fun _ _ _ h=>h),Qo _ _,SlA.nil⟩
 case round=>
  obtain⟨k,hk,rfl,hA,hb⟩:=hrel
  have HB:=hid hb
  have HA:=hid hA
  have hsr:=hb.size
  clear hA hb d0 d1 d2 d6
  obtain⟨_,_,_,d0,d1,d2,d6,_,_⟩:=HX.out _ (HB3.out.trans (HB.out.mono hs3))
  obtain⟨ne,nk,nc,oe,ok,oc,g1,g2,hN,hNC,hO,hOC⟩:=HA.out
  have hl1:=lt_of_block g1
  have hl2:=lt_of_block g2
  have HI:=hid (HD.out.inv k hk)
  obtain⟨⟨m0,⟨NT,NC⟩,⟨OT,OC⟩⟩,HS⟩:∃ S,Hid (chS (nmD dc fr) G (ops.take k)=S):=⟨_,rfl⟩
  rw[HS.out]at hN hNC hO hOC HI
  simp only at hN hNC hO hOC
  obtain⟨A1,n1,B1,m1,e1,e2⟩:=Qj hN
  subst e1;subst e2
  obtain⟨C1,c1,e3⟩:=hNC.shape
  subst e3
  obtain⟨A2,n2,B2,m2,e1,e2⟩:=Qj hO
  subst e1;subst e2
  obtain⟨C2,c2,e3⟩:=hOC.shape
  subst e3
  have q0:=Qa (i:=0) g1
  have q1:=Qa (i:=1) g1
  have q2:=Qa (i:=2) g1
  have p0:=Qa (i:=0) g2
  have p1:=Qa (i:=1) g2
  have p2:=Qa (i:=2) g2
  simp only[List.getElem?_toArray,List.getElem?_cons_zero,List.getElem?_cons_succ]at q0 q1 q2 p0 p1 p2
  have HN:=hid hN
  have HNC:=hid hNC
  have HO:=hid hO
  have HOC:=hid hOC
  have HG1:=hid g1
  have HG2:=hid g2
  have hm0:m0=k:=by
   have h:=Jt (nmD dc fr) G (ops.take k)
   rw[HS.out]at h
   simp at h;omega
  subst hm0
  have hz1:NT.sz<=100:=by have h:=HI.out.z1;simp only at h;omega
  have hz3:OT.sz<=100:=by have h:=HI.out.z2;simp only at h;omega
  have hz4:NC.length<=7000:=by have h:=HI.out.l1;simp only at h;omega
  have hz5:OC.length<=7000:=by have h:=HI.out.l2;simp only at h;omega
  clear g1 g2 hN hNC hO hOC
  by_cases hlt:m0<ops.length
  ·obtain⟨x,hx⟩:∃ x,ops[m0]?=some x:=⟨_,List.getElem?_eq_getElem hlt⟩
   obtain⟨b,off,A6,c6,rfl,hbB,hpx,hox,hu⟩:=OpL.at HOL.out hx
   have hbw:=HB3W.out.trans (HB.out.mono HB3W.out.size)
   have HBW:=hid hbw
   obtain⟨f0,f1,f2,f3⟩:=hu wr (hbw.block b hbB)
   have HPX:=hid (hpx.imp hbw (Nat.le_refl _) fun _ _ _ h=>h)
   have HOX:=hid hox
   have HAI:Hid (appI NT x (nmD dc fr m0)=0):=by
    have h:=HD.out.okn m0 x hx
    rw[HS.out]at h
    exact h
   have HTK:Hid (chS (nmD dc fr) G (ops.take (m0+1))=(m0+1,aftK (NT,NC) x (nmD dc fr m0),jn (OT,OC) (appT NT x (nmD dc fr m0),appC NT x (nmD dc fr m0)))):=by
    have h:=Xd (nm:=nmD dc fr) (g:=G) hx
    rw[HS.out]at h
    exact h
   have HDO:Hid (Dt.Ok (nmD dc fr m0)):=by
    refine⟨hdc,?_⟩
    unfold nmD I64;simp only;omega
   have hnm:nmD dc fr m0=⟨dc,fr+(m0:Int)⟩:=rfl
   rw[hnm]at HAI HTK HDO
   have HAR:=hid (QR HAI.out)
   have HAL:=hid (KB HAI.out)
   obtain⟨PT,HPT⟩:∃ q,Hid (appT NT x ⟨dc,fr+(m0:Int)⟩=q):=⟨_,rfl⟩
   obtain⟨PC,HPC⟩:∃ q,Hid (appC NT x ⟨dc,fr+(m0:Int)⟩=q):=⟨_,rfl⟩
   rw[HPT.out,HPC.out]at HTK
   have HKP:Hid (KOk (PT,PC)):=by have h:=HAR.out.1;rw[HPT.out,HPC.out]at h;exact h
   have hp1:PT.sz<=5:=by have h:=HAR.out.2;rw[HPT.out]at h;exact h
   have hp2:PC.length<=1000:=by have h:=HAL.out;rw[HPC.out]at h;omega
   have HJN:=hid (jn_ok HI.out.now HKP.out)
   have HJO:=hid (jn_ok HI.out.out HKP.out)
   obtain⟨⟨JT,JC⟩,HJ1⟩:∃ q,Hid (jn (NT,NC) (PT,PC)=q):=⟨_,rfl⟩
   obtain⟨⟨KT,KC⟩,HJ2⟩:∃ q,Hid (jn (OT,OC) (PT,PC)=q):=⟨_,rfl⟩
   have HTK2:Hid (chS (nmD dc fr) G (ops.take (m0+1))=(m0+1,(JT,JC),(KT,KC))):=by
    have h:=HTK.out
    unfold aftK at h
    rw[HPT.out,HPC.out,HJ1.out,HJ2.out]at h
    exact h
   have HN1:Hid (jnE NT PT NC PC=0):=HJN.out.1
   have HN2:Hid (jnT NT PT NC PC=JT):=HJN.out.2.1.trans (congrArg Prod.fst HJ1.out)
   have HN3:Hid (jnC NT PT NC PC=JC):=HJN.out.2.2.trans (congrArg Prod.snd HJ1.out)
   have HO1:Hid (jnE OT PT OC PC=0):=HJO.out.1
   have HO2:Hid (jnT OT PT OC PC=KT):=HJO.out.2.1.trans (congrArg Prod.fst HJ2.out)
   have HO3:Hid (jnC OT PT OC PC=KC):=HJO.out.2.2.trans (congrArg Prod.snd HJ2.out)
   have hw3:IntKind.i64.wrap (fr+(m0:Int))=fr+(m0:Int):=IntWalk.i64_in _ (by omega)
   have hm1:(m0:Int)<(ops.length:Int):=by omega
   have hb1:b≠wr.heap.size:=by omega
   have hb2:w3.heap.size≠wr.heap.size:=by omega
   have hb3:w3.heap.size+1≠wr.heap.size:=by omega
   have hb4:wr.heap.size≠w3.heap.size:=by omega
   have hb5:wr.heap.size≠w3.heap.size+1:=by omega
   have hb6:w3.heap.size≠w3.heap.size+1:=by omega
   have hb7:w3.heap.size+1≠w3.heap.size:=by omega
   have hbA:Below wr.heap.size wr (wr.alloc (.cells #[.slice A6 x.path.length c6,.int .i64 x.act,.string x.s,.int .i64 x.n] 59)):=(Below.refl _ wr).alloc (Nat.le_refl _) _
   have HRA:=hid (QI HN.out (fun b hb=>hb.2.2) hbA)
   have HPA:Hid (SlP (wr.alloc (.cells #[.slice A6 x.path.length c6,.int .i64 x.act,.string x.s,.int .i64 x.n] 59)) (wr.alloc (.cells #[.slice A6 x.path.length c6,.int .i64 x.act,.string x.s,.int .i64 x.n] 59)).heap.size 1 StE (.slice A6 x.path.length c6) x.path):=hid (HPX.out.imp (hbA.mono hbw.size) (by have:=hbw.size;simp;omega) fun _ _ _ h=>h)
   have HBA:=hid hbA
   clear hu hpx hox hx hbw hbA hnm HAL HAR HJN HJO HS HTK
   go_wp2_with fail
   refine (KJ NT x ⟨dc,fr+(m0:Int)⟩ _ _ _ _ HRA.out HPA.out HOX.out HDO.out (by omega)).mono ?_
   rw[HPT.out,HPC.out,HAI.out]
   rintro e w5 ⟨ve5,vk5,vc5,rfl,hrd5,hsl5,hb5'⟩
   obtain⟨A5,n5,B5,m5,e1,e2⟩:=Qj hrd5
   subst e1;subst e2
   obtain⟨C5,c5,e3⟩:=hsl5.shape
   subst e3
   have HB5:=hid (HBA.out.trans (hb5'.mono (by simp)))
   have hs5:=HB5.out.size
   have HR5:=hid hrd5
   have HS5:=hid hsl5
   have HV5:Hid (w5.heap[w3.heap.size]?=some (.cells #[.slice A1 NT.es.length n1,.slice B1 NT.ks.length m1,.slice C1 NC.length c1] 29 (0,0))):=(HB5.out.block _ hl1).trans HG1.out
   have HW5:Hid (w5.heap[w3.heap.size+1]?=some (.cells #[.slice A2 OT.es.length n2,.slice B2 OT.ks.length m2,.slice C2 OC.length c2] 29 (0,0))):=(HB5.out.block _ hl2).trans HG2.out
   clear hb5' hrd5 hsl5 q0 q1 q2 p0 p1 p2 f0 f1 f2 f3 d0 d1 d2 d6
   obtain⟨q0,q1,q2⟩:=bx3 HV5.out
   have hc1:w3.heap.size≠w5.heap.size:=by omega
   have hc2:w5.heap.size≠w3.heap.size:=by omega
   have hc3:w3.heap.size+1≠w5.heap.size:=by omega
   have hc4:w5.heap.size≠w3.heap.size+1:=by omega
   have hl5:w3.heap.size+1<w5.heap.size:=by omega
   have hl5':w3.heap.size<w5.heap.size:=by omega
   have hbC:Below w5.heap.size w5 (w5.alloc (.cells #[.slice A5 PT.es.length n5,.slice B5 PT.ks.length m5,.slice C5 PC.length c5] 29)):=(Below.refl _ w5).alloc (Nat.le_refl _) _
   have HBC:=hid hbC
   have HN5:=hid (QI HN.out (fun b hb=>hb.2.2) (HB5.out.trans (hbC.mono hs5)))
   have HNC5:=hid (HNC.out.slp (fun b hb=>hb.2.2) (HB5.out.trans (hbC.mono hs5)))
   have HR5A:=hid (QI HR5.out (fun b hb=>hb.2) hbC)
   have HS5A:=hid (HS5.out.slp (fun b hb=>hb.2) hbC)
   clear hbC
   go_upto_region 18 with (fail)
   go_cut [103] (fun _ wx=>Below w3.heap.size w3 wx/\(∃ a1 a2 a3,wx.heap[w3.heap.size]?=some (.cells #[a1,a2,a3] 29 (0,0))/\JT.rda wx (fun b=>w5.heap.size<b/\b<wx.heap.size) a1 a2/\SlA wx (fun b=>w5.heap.size<b/\b<wx.heap.size) 3 SpE a3 JC)/\(∀ b,b≠w3.heap.size->b<w5.heap.size->wx.heap[b]?=w5.heap[b]?)/\wx.heap[w5.heap.size]?=some (.cells #[.slice A5 PT.es.length n5,.slice B5 PT.ks.length m5,.slice C5 PC.length c5] 29 (0,0))/\w5.heap.size<wx.heap.size)
   case first=>
    go_wp2_with fail
    refine (XV NC PC NT PT _ _ _ _ _ _ _ HN5.out HR5A.out HNC5.out HS5A.out (by omega) (by omega) (by omega) (by omega)).mono ?_
    rw[HN1.out,HN2.out,HN3.out]
    rintro e w6 ⟨ve6,vk6,vc6,rfl,hrd6,hsl6,hb6'⟩
    obtain⟨A7,n7,B7,m7,e1,e2⟩:=Qj hrd6
    subst e1;subst e2
    obtain⟨C7,c7,e3⟩:=hsl6.shape
    subst e3
    have HB6:=hid (HBC.out.trans (hb6'.mono (by simp)))
    have hs6:=hb6'.size
    rw[World.size_alloc]at hs6
    have HR6:=hid hrd6
    have HS6:=hid hsl6
    have hg6:=(HB6.out.block _ (by omega)).trans HV5.out
    have HG6:=hid hg6
    have HP6:=hid ((hb6'.block w5.heap.size (by simp)).trans (Qc rfl))
    obtain⟨k0,k1,k2,z0,z1,z2⟩:=bz3 hg6
    clear q0 q1 q2 hg6 hb6' hrd6 hsl6
    go_wp2_with fail
    go_meet
    case rel=>
     obtain⟨r0,r1,r2,hK,hS⟩:=box3 HG6.out (.slice A7 JT.es.length n7) (.slice B7 JT.ks.length m7) (.slice C7 JC.length c7)
     have hW:=Qe (i:=2) (Qe (i:=1) (Qe (i:=0) HG6.out (.slice A7 JT.es.length n7)) (.slice B7 JT.ks.length m7)) (.slice C7 JC.length c7)
     have h6:∀ b,((w5.alloc (.cells #[.slice A5 PT.es.length n5,.slice B5 PT.ks.length m5,.slice C5 PC.length c5] 29)).heap.size<=b/\b<w6.heap.size)->b≠w3.heap.size:=fun b hb=>by have:=hb.1;rw[World.size_alloc]at this;omega
     refine⟨(((HB.out.trans ((HB5.out.trans (HB6.out.mono hs5)).mono hsr)).setCell (p:=⟨w3.heap.size,0,none⟩) (by simp) _).setCell (p:=⟨w3.heap.size,1,none⟩) (by simp) _).setCell (p:=⟨w3.heap.size,2,none⟩) (by simp) _,⟨_,_,_,hW,Qp (fun b hb=>hK b (h6 b hb)) (fun b hb=>?_) _ _ _ HR6.out,HS6.out.up (fun b hb=>hK b (h6 b hb)) (fun b hb=>?_) fun _ _ _ h=>h⟩,fun b hb hb'=>(hK b hb).trans (HB6.out.block b hb'),(hK _ (by omega)).trans HP6.out,by rw[hS];omega⟩
     ·have:=hb.1;rw[World.size_alloc]at this;exact⟨by omega,by rw[hS];exact hb.2⟩
     ·have:=hb.1;rw[World.size_alloc]at this;exact⟨by omega,by rw[hS];exact hb.2⟩
   case rest=>
    obtain⟨hB7,⟨a1,a2,a3,hJ,hJr,hJs⟩,hK7,hP7,hs7⟩:=hcut
    obtain⟨w7,hw7⟩:∃ z:World,z=wc:=⟨wc,rfl⟩
    subst hw7
    have HB7:=hid hB7
    have HJ7:=hid hJ
    have HJR7:=hid hJr
    have HJS7:=hid hJs
    have HK7:=hid hK7
    have HP7:=hid hP7
    clear hJ hJr hJs hK7 hP7 hB7 q0 q1 q2
    have hO7:=(HK7.out (w3.heap.size+1) (by omega) (by omega)).trans HW5.out
    have HO7:=hid hO7
    have q0:=Qa (i:=0) hO7
    have q1:=Qa (i:=1) hO7
    have q2:=Qa (i:=2) hO7
    have p0:=Qa (i:=0) HP7.out
    have p1:=Qa (i:=1) HP7.out
    have p2:=Qa (i:=2) HP7.out
    simp only[List.getElem?_toArray,List.getElem?_cons_zero,List.getElem?_cons_succ]at q0 q1 q2 p0 p1 p2
    have kO:Keeps (fun b=>w3.heap.size+2<=b/\b<wr.heap.size) wr w7:=fun b hb=>(HK7.out b (by have:=hb.1;omega) (by have:=hb.2;omega)).trans (HB5.out.block b hb.2)
    have HO7R:=hid (Qp (ok':=fun b=>b<w7.heap.size) kO (fun b hb=>(by have:=hb.2;omega)) _ _ _ HO.out)
    have HO7S:=hid (HOC.out.up (ok':=fun b=>b<w7.heap.size) kO (fun b hb=>(by have:=hb.2;omega)) fun _ _ _ h=>h)
    have h5s:(wr.alloc (.cells #[.slice A6 x.path.length c6,.int .i64 x.act,.string x.s,.int .i64 x.n] 59)).heap.size=wr.heap.size+1:=World.size_alloc _ _
    have kP:Keeps (fun b=>(wr.alloc (.cells #[.slice A6 x.path.length c6,.int .i64 x.act,.string x.s,.int .i64 x.n] 59)).heap.size<=b/\b<w5.heap.size) w5 w7:=fun b hb=>HK7.out b (by have:=hb.1;rw[h5s]at this;omega) hb.2
    have HP7R:=hid (Qp (ok':=fun b=>b<w7.heap.size) kP (fun b hb=>(by have:=hb.2;omega)) _ _ _ HR5.out)
    have HP7S:=hid (HS5.out.up (ok':=fun b=>b<w7.heap.size) kP (fun b hb=>(by have:=hb.2;omega)) fun _ _ _ h=>h)
    clear hO7 kO kP h5s
    go_wp2_with fail
    refine (XV OC PC OT PT _ _ _ _ _ _ _ (QI HO7R.out (fun _ h=>h) (Below.refl _ _)) (QI HP7R.out (fun _ h=>h) (Below.refl _ _)) (HO7S.out.slp (fun _ h=>h) (Below.refl _ _)) (HP7S.out.slp (fun _ h=>h) (Below.refl _ _)) (by omega) (by omega) (by omega) (by omega)).mono ?_
    rw[HO1.out,HO2.out,HO3.out]
    rintro e w8 ⟨ve8,vk8,vc8,rfl,hrd8,hsl8,hb8⟩
    obtain⟨A8,n8,B8,m8,e1,e2⟩:=Qj hrd8
    subst e1;subst e2
    obtain⟨C8,c8,e3⟩:=hsl8.shape
    subst e3
    have HB8:=hid hb8
    have hs8:=hb8.size
    have HR8:=hid hrd8
    have HS8:=hid hsl8
    have hg8:=(hb8.block _ (by omega)).trans HO7.out
    have HG8:=hid hg8
    obtain⟨k0,k1,k2,z0,z1,z2⟩:=bz3 hg8
    clear q0 q1 q2 p0 p1 p2 hg8 hb8 hrd8 hsl8
    go_wp2_with fail
    obtain⟨r0,r1,r2,hK,hS⟩:=box3 HG8.out (.slice A8 KT.es.length n8) (.slice B8 KT.ks.length m8) (.slice C8 KC.length c8)
    have hW:=Qe (i:=2) (Qe (i:=1) (Qe (i:=0) HG8.out (.slice A8 KT.es.length n8)) (.slice B8 KT.ks.length m8)) (.slice C8 KC.length c8)
    have HK8:=hid hK
    have HS8':=hid hS
    have HW8:=hid hW
    clear r0 r1 r2 hK hS hW
    go_roundw
    case rel=>
     refine⟨m0+1,by omega,by go_num,?_,?_⟩
     ·rw[HTK2.out]
      refine⟨_,_,_,_,_,_,(HK8.out _ (by omega)).trans ((HB8.out.block _ (by omega)).trans HJ7.out),HW8.out,Qp (fun b hb=>?_) (fun b hb=>?_) _ _ _ HJR7.out,HJS7.out.up (fun b hb=>?_) (fun b hb=>?_) (fun _ _ _ h=>h),Qp (fun b hb=>HK8.out b ?_) (fun b hb=>?_) _ _ _ HR8.out,HS8.out.up (fun b hb=>HK8.out b ?_) (fun b hb=>?_) fun _ _ _ h=>h⟩
      ·exact (HK8.out b (by have:=hb.1;omega)).trans (HB8.out.block b hb.2)
      ·exact⟨by have:=hb.1;omega,by have:=hb.1;omega,by rw[HS8'.out];have:=hb.2;omega⟩
      ·exact (HK8.out b (by have:=hb.1;omega)).trans (HB8.out.block b hb.2)
      ·exact⟨by have:=hb.1;omega,by have:=hb.1;omega,by rw[HS8'.out];have:=hb.2;omega⟩
      ·have:=hb.1;omega
      ·exact⟨by have:=hb.1;omega,by rw[HS8'.out];exact hb.2⟩
      ·have:=hb.1;omega
      ·exact⟨by have:=hb.1;omega,by rw[HS8'.out];exact hb.2⟩
     ·exact (((HB7.out.trans (HB8.out.mono (by omega))).setCell (p:=⟨w3.heap.size+1,0,none⟩) (by simp) _).setCell (p:=⟨w3.heap.size+1,1,none⟩) (by simp) _).setCell (p:=⟨w3.heap.size+1,2,none⟩) (by simp) _
    case measure=>simp[intOf];omega
  ·have hke:m0=ops.length:=by omega
   have hm1:¬(m0:Int)<(ops.length:Int):=by omega
   have HOL':Hid (chS (nmD dc fr) G ops=(m0,(NT,NC),(OT,OC))):=by
    have h:=HS.out
    rw[List.take_of_length_le (by omega)]at h
    exact h
   obtain⟨hBx,hsx,hGx,_⟩:=HX.out _ (HB3.out.trans (HB.out.mono hs3))
   have HBX:=hid hBx
   have HGX:=hid hGx
   have hneR:w.heap.size≠w3.heap.size+1:=by omega
   obtain⟨k0,k1,k2,z0,z1,z2⟩:=bz3 hGx
   clear hBx hGx HS hke
   go_wp2_with fail
   obtain⟨r0,r1,r2,hK,hS⟩:=box3 HGX.out (.slice A2 OT.es.length n2) (.slice B2 OT.ks.length m2) (.slice C2 OC.length c2)
   refine bodyPost_ret (v:=.tuple #[.agg #[.slice A2 OT.es.length n2,.slice B2 OT.ks.length m2,.slice C2 OC.length c2],.int .i64 0]) (by simp[results,Tryz.results45,go_sem,r0,r1,r2]<;>rfl) rfl ⟨.slice A2 OT.es.length n2,.slice B2 OT.ks.length m2,.slice C2 OC.length c2,by first|rfl|rw[HDI.out],?_,?_,((HBX.out.setCell (p:=⟨w.heap.size,0,none⟩) (by simp) _).setCell (p:=⟨w.heap.size,1,none⟩) (by simp) _).setCell (p:=⟨w.heap.size,2,none⟩) (by simp) _⟩
   ·rw[HKN.out,HOL'.out]
    exact Qp (fun b hb=>hK b (by have:=hb.1;omega)) (fun b hb=>⟨by have:=hb.1;omega,by rw[hS];exact hb.2⟩) _ _ _ HO.out
   ·rw[HKN.out,HOL'.out]
    exact HOC.out.up (fun b hb=>hK b (by have:=hb.1;omega)) (fun b hb=>⟨by have:=hb.1;omega,by rw[hS];exact hb.2⟩) fun _ _ _ h=>h
theorem zQ1 (t:Tr)(tc:List Sp)(l:List Opr)(dc:Int)(fr:Int)(p:List ByteArray)(w:World)(ve0 vk0 vc0 vl1 vl4:Value)(h0:t.rd w w.heap.size ve0 vk0)(hc0:SlP w w.heap.size 3 SpE vc0 tc)(h1:OpL w vl1 l)(h2:I64 dc)(h3:I64 fr)(h4:SlP w w.heap.size 1 StE vl4 p) :
  Calls Tryz.prog 10 #[.agg #[ve0,vk0,vc0],vl1,.int .i64 dc,.int .i64 fr,vl4] w fun e w'=>e=.returned (.bool true)/\Below w.heap.size w w':=by
 have HC0:Hid (∀ w',Below w.heap.size w w'->t.rd w' w'.heap.size ve0 vk0):=fun w' hb=>Qi hb hb.size _ _ _ h0
 have HD0:Hid (∀ w',Below w.heap.size w w'->SlP w' w'.heap.size 3 SpE vc0 tc):=fun w' hb=>hc0.imp hb hb.size fun _ _ _ h=>h
 obtain⟨A0,n0,B0,m0,rfl,rfl⟩:=Qk h0
 obtain⟨D0,k0,rfl,_⟩:=hc0
 clear h0
 have HC1:Hid (∀ w',Below w.heap.size w w'->OpL w' vl1 l):=fun w' hb=>h1.up hb
 obtain⟨A1,n1,rfl,_⟩:=id h1
 have HC4:Hid (∀ w',Below w.heap.size w w'->SlP w' w'.heap.size 1 StE vl4 p):=fun w' hb=>h4.imp hb hb.size fun _ _ _ h=>h
 obtain⟨A4,n4,rfl,_⟩:=h4
 have HX0:Hid (∀ W,Below (w.heap.size+1) (w.alloc (.cells #[.slice A0 t.es.length n0,.slice B0 t.ks.length m0,.slice D0 tc.length k0] 29)) W->(Below w.heap.size w W/\w.heap.size+1<=(W).heap.size/\t.rd W (W).heap.size (.slice A0 t.es.length n0) (.slice B0 t.ks.length m0)/\SlP W (W).heap.size 3 SpE (.slice D0 tc.length k0) tc/\OpL W (.slice A1 l.length n1) l/\SlP W (W).heap.size 1 StE (.slice A4 p.length n4) p/\(W).cell? ⟨w.heap.size,0,none⟩=some (.slice A0 t.es.length n0)/\(W).cell? ⟨w.heap.size,1,none⟩=some (.slice B0 t.ks.length m0)/\(W).cell? ⟨w.heap.size,2,none⟩=some (.slice D0 tc.length k0))):=fun W hW=>by
  have g0:W.heap[w.heap.size]?=some (.cells #[.slice A0 t.es.length n0,.slice B0 t.ks.length m0,.slice D0 tc.length k0] 29 (0,0)):=(hW.block _ (by omega)).trans (Qc rfl)
  have hB:Below w.heap.size w W:=((Below.refl _ w).alloc (Nat.le_refl _) _).trans (hW.mono (by omega))
  exact⟨hB,by have:=hW.size;simpa using this,HC0.out _ hB,HD0.out _ hB,HC1.out _ hB,HC4.out _ hB,Qa (i:=0) g0,Qa (i:=1) g0,Qa (i:=2) g0⟩
 go_enter Tryz.func10,Tryz.ntmps10
 obtain⟨FW,HFW⟩:∃ q,Hid (fewL (t,tc) l=q):=⟨_,rfl⟩
 go_wp2_with fail
 obtain⟨hB,hs,rt0,rc0,ro1,rl4,c00,c01,c02⟩:=HX0.out _ (Below.refl _ _)
 refine (Q7 _).mono ?_
 rintro e w1 ⟨rfl,hb⟩
 have hbk1:Hid (Below (w.heap.size+1) (w.alloc (.cells #[.slice A0 t.es.length n0,.slice B0 t.ks.length m0,.slice D0 tc.length k0] 29)) w1):=hid (hb.mono (by first|omega|(simp;done)|(simp;omega)))
 clear hb
 clear hB hs rt0 rc0 ro1 rl4 c00 c01 c02
 obtain⟨hB,hs,rt0,rc0,ro1,rl4,c00,c01,c02⟩:=HX0.out _ hbk1.out
 go_wp2_with fail
 refine (KR (t,tc) l _ _ _ _ _ rt0 rc0 ro1).mono ?_
 rw[HFW.out]
 rintro e w2 ⟨rfl,hb⟩
 have hbk2:Hid (Below (w.heap.size+1) (w.alloc (.cells #[.slice A0 t.es.length n0,.slice B0 t.ks.length m0,.slice D0 tc.length k0] 29)) w2):=hid (hbk1.out.trans (hb.mono (by first|omega|(simp;done)|(simp;omega))))
 clear hb
 clear hB hs rt0 rc0 ro1 rl4 c00 c01 c02
 obtain⟨hB,hs,rt0,rc0,ro1,rl4,c00,c01,c02⟩:=HX0.out _ hbk2.out
 cases FW
 ·skip
  go_wp2_with fail
  refine (Q7 _).mono ?_
  rintro e w3 ⟨rfl,hb⟩
  have hbk3:Hid (Below (w.heap.size+1) (w.alloc (.cells #[.slice A0 t.es.length n0,.slice B0 t.ks.length m0,.slice D0 tc.length k0] 29)) w3):=hid (hbk2.out.trans (hb.mono (by first|omega|(simp;done)|(simp;omega))))
  clear hb
  clear hB hs rt0 rc0 ro1 rl4 c00 c01 c02
  obtain⟨hB,hs,rt0,rc0,ro1,rl4,c00,c01,c02⟩:=HX0.out _ hbk3.out
  go_wp2_with fail
  go_ret
  exact⟨rfl,hB⟩
 ·skip
  have HSZ:Hid ((t.sz<=40/\tc.length<=40)/\l.length<=20/\l.all QV=true):=by
   have h:=HFW.out
   unfold fewL at h
   simp only[Bool.and_eq_true,decide_eq_true_eq]at h
   exact⟨qYe h.1,h.2.1,h.2.2⟩
  have hz:=HSZ.out.1.1
  have hz2:=HSZ.out.1.2
  have hL:=HSZ.out.2.1
  have HSH:Hid (∀ o∈l,QV o=true):=fun o ho=>List.all_eq_true.1 HSZ.out.2.2 o ho
  by_cases h20:20<p.length
  ·skip
   have h20':decide ((20:Int)<(p.length:Int))=true:=decide_eq_true (by omega)
   skip
   go_wp2_with fail
   refine (Q7 _).mono ?_
   rintro e w3 ⟨rfl,hb⟩
   have hbk3:Hid (Below (w.heap.size+1) (w.alloc (.cells #[.slice A0 t.es.length n0,.slice B0 t.ks.length m0,.slice D0 tc.length k0] 29)) w3):=hid (hbk2.out.trans (hb.mono (by first|omega|(simp;done)|(simp;omega))))
   clear hb
   clear hB hs rt0 rc0 ro1 rl4 c00 c01 c02
   obtain⟨hB,hs,rt0,rc0,ro1,rl4,c00,c01,c02⟩:=HX0.out _ hbk3.out
   go_wp2_with fail
   go_ret
   exact⟨rfl,hB⟩
  ·skip
   have h20':decide ((20:Int)<(p.length:Int))=false:=decide_eq_false (by omega)
   go_wp2_with fail
   refine (KU (t,tc) l _ _ _ _ _ rt0 rc0 ro1 hz hz2 hL HSH.out).mono ?_
   rintro e w3 ⟨h,hb⟩
   have hbk3:Hid (Below (w.heap.size+1) (w.alloc (.cells #[.slice A0 t.es.length n0,.slice B0 t.ks.length m0,.slice D0 tc.length k0] 29)) w3):=hid (hbk2.out.trans (hb.mono (by first|omega|(simp;done)|(simp;omega))))
   clear hb
   clear hB hs rt0 rc0 ro1 rl4 c00 c01 c02
   obtain⟨hB,hs,rt0,rc0,ro1,rl4,c00,c01,c02⟩:=HX0.out _ hbk3.out
   rcases h with h|h
   ·skip
    obtain⟨hE,rfl⟩:=h
    go_wp2_with fail
    go_ret
    exact⟨rfl,hB.alloc (by omega) _⟩
   ·skip
    obtain⟨hE,g,okp,v,vo,ge,gk,gc,vr,ne,nk,nc,rfl,hg,hT,hr1,hs1,hr2,hs2,hro⟩:=h
    have HI0:=hid (Xs (t,tc) l)
    have HMEM:=hid (qYh (t,tc) l)
    obtain⟨⟨O,⟨NT,NC⟩⟩,HS⟩:∃ S,Hid (txS (t,tc) l=S):=⟨_,rfl⟩
    rw[HS.out]at hT hr2 hs2 hro HI0 HMEM
    simp only at hT hr1 hs1 hr2 hs2 hro HMEM
    have HOP:Hid (∀ o∈O,o.path.length<=1000):=fun o ho=>by
     have h:=HSH.out o (HMEM.out o ho)
     unfold QV at h
     simp only[Bool.and_eq_true,decide_eq_true_eq]at h
     omega
    have HK:Hid (KOk (t,tc)):=by
     have h:=hE
     unfold begE at h
     split at h
     ·rename_i hr;exact Yj.1 hr
     ·cases h
    have HOWN:Hid (∀ k,k<12->hasC tc (txD k)=false):=by
     intro k hk
     have h:=hE
     unfold begE at h
     split at h
     ·split at h
      ·cases h
      ·rename_i hn
       cases hh:hasC tc (txD k)
       ·rfl
       ·exact absurd (Zz.2 ⟨k,hk,hh⟩) hn
     ·cases h
    have hIl:O.length<=12:=HI0.out.len
    have hfx:=HI0.out.facts HK.out hz hz2
    have HKN:Hid (KOk (NT,NC)):=hid hfx.1
    have hzN:NT.sz<=100:=hfx.2.1
    have hzC:NC.length<=6040:=hfx.2.2
    clear hfx hE
    obtain⟨Ag,ng,Bg,mg,rfl,rfl⟩:=Qk hr1
    obtain⟨Cg,kg,rfl,_⟩:=id hs1
    obtain⟨An,nn,Bn,mn,rfl,rfl⟩:=Qk hr2
    obtain⟨Cn,kn,rfl,_⟩:=id hs2
    obtain⟨Ao,no,rfl,_⟩:=id hro
    have hlt3797:w.heap.size<w3.heap.size:=by omega
    have hne3797:w.heap.size≠w3.heap.size:=by omega
    have hnr3797:w3.heap.size≠w.heap.size:=by omega
    have hgw:g<w3.heap.size:=hT.lt
    have HX1:Hid (∀ W,Below (w3.heap.size+1) (w3.alloc (.cells #[.slice Ag t.es.length ng,.slice Bg t.ks.length mg,.slice Cg tc.length kg,.slice Ao O.length no,.slice An NT.es.length nn,.slice Bn NT.ks.length mn,.slice Cn NC.length kn] 63)) W->(w3.heap.size+1<=(W).heap.size/\TxB W g okp v vo (t,tc) (NT,NC) O/\t.rd W (W).heap.size (.slice Ag t.es.length ng) (.slice Bg t.ks.length mg)/\SlP W (W).heap.size 3 SpE (.slice Cg tc.length kg) tc/\NT.rd W (W).heap.size (.slice An NT.es.length nn) (.slice Bn NT.ks.length mn)/\SlP W (W).heap.size 3 SpE (.slice Cn NC.length kn) NC/\OpL W (.slice Ao O.length no) O/\(W).cell? ⟨w3.heap.size,0,none⟩=some (.slice Ag t.es.length ng)/\(W).cell? ⟨w3.heap.size,1,none⟩=some (.slice Bg t.ks.length mg)/\(W).cell? ⟨w3.heap.size,2,none⟩=some (.slice Cg tc.length kg)/\(W).cell? ⟨w3.heap.size,3,none⟩=some (.slice Ao O.length no)/\(W).cell? ⟨w3.heap.size,4,none⟩=some (.slice An NT.es.length nn)/\(W).cell? ⟨w3.heap.size,5,none⟩=some (.slice Bn NT.ks.length mn)/\(W).cell? ⟨w3.heap.size,6,none⟩=some (.slice Cn NC.length kn)/\Below w.heap.size w W/\w.heap.size+1<=(W).heap.size/\t.rd W (W).heap.size (.slice A0 t.es.length n0) (.slice B0 t.ks.length m0)/\SlP W (W).heap.size 3 SpE (.slice D0 tc.length k0) tc/\OpL W (.slice A1 l.length n1) l/\SlP W (W).heap.size 1 StE (.slice A4 p.length n4) p/\(W).cell? ⟨w.heap.size,0,none⟩=some (.slice A0 t.es.length n0)/\(W).cell? ⟨w.heap.size,1,none⟩=some (.slice B0 t.ks.length m0)/\(W).cell? ⟨w.heap.size,2,none⟩=some (.slice D0 tc.length k0))):=fun W hW=>by
     have g0:=(hW.block w3.heap.size (by omega)).trans (Qc rfl)
     have hB:Below w3.heap.size w3 W:=((Below.refl _ w3).alloc (Nat.le_refl _) _).trans (hW.mono (by omega))
     exact⟨by have:=hW.size;simpa using this,hT.grow hB,Qi hB hB.size _ _ _ hr1,hs1.imp hB hB.size (fun _ _ _ h=>h),Qi hB hB.size _ _ _ hr2,hs2.imp hB hB.size (fun _ _ _ h=>h),hro.up hB,Qa (i:=0) g0,Qa (i:=1) g0,Qa (i:=2) g0,Qa (i:=3) g0,Qa (i:=4) g0,Qa (i:=5) g0,Qa (i:=6) g0,HX0.out W (hbk3.out.trans (hB.mono (by omega)))⟩
    clear hT hr1 hs1 hr2 hs2 hro
    have HDF:Hid (delI (t,tc) O dc fr=0->DelF (t,tc) O dc fr):=hid (qXg HK.out hz hIl HOWN.out HI0.out.ok)
    obtain⟨DT,HDT⟩:∃ q,Hid ((delK (t,tc) O dc fr).1=q):=⟨_,rfl⟩
    obtain⟨DC,HDC⟩:∃ q,Hid ((delK (t,tc) O dc fr).2=q):=⟨_,rfl⟩
    obtain⟨E,HDE⟩:∃ q,Hid (delI (t,tc) O dc fr=q):=⟨_,rfl⟩
    go_wp2_with fail
    clear hB hs rt0 rc0 ro1 rl4 c00 c01 c02
    obtain⟨hs_t,rx_t,rt_g,rc_g,rt_n,rc_n,ro_n,c0_t,c1_t,c2_t,c3_t,c4_t,c5_t,c6_t,hB,hs,rt0,rc0,ro1,rl4,c00,c01,c02⟩:=HX1.out _ (Below.refl _ _)
    refine (K9 dc fr rx_t HK.out hz hz2 hIl HDF.out h2 h3).mono ?_
    rw[HDT.out,HDC.out,HDE.out]
    rintro e w4 ⟨xe4,xk4,xc4,rfl,hrd4,hsl4,hb⟩
    obtain⟨A4x,n4x,B4x,m4x,rfl,rfl⟩:=Qj hrd4
    obtain⟨D4x,k4x,rfl⟩:=hsl4.shape
    have hbk4:Hid (Below (w3.heap.size+1) (w3.alloc (.cells #[.slice Ag t.es.length ng,.slice Bg t.ks.length mg,.slice Cg tc.length kg,.slice Ao O.length no,.slice An NT.es.length nn,.slice Bn NT.ks.length mn,.slice Cn NC.length kn] 63)) w4):=hid (hb.mono (by first|omega|(simp;done)|(simp;omega)))
    clear hb
    clear hs_t rx_t rt_g rc_g rt_n rc_n ro_n c0_t c1_t c2_t c3_t c4_t c5_t c6_t hB hs rt0 rc0 ro1 rl4 c00 c01 c02
    obtain⟨hs_t,rx_t,rt_g,rc_g,rt_n,rc_n,ro_n,c0_t,c1_t,c2_t,c3_t,c4_t,c5_t,c6_t,hB,hs,rt0,rc0,ro1,rl4,c00,c01,c02⟩:=HX1.out _ hbk4.out
    by_cases hE:E=0
    ·skip
     subst hE
     have HD:=hid (HDF.out HDE.out)
     obtain⟨⟨JT,JC⟩,HJ⟩:∃ q,Hid ((chS (nmD dc fr) (t,tc) O).2.1=q):=⟨_,rfl⟩
     have hDK:(DT,DC)=(chS (nmD dc fr) (t,tc) O).2.2:=by rw[←qYs HDE.out,←HDT.out,←HDC.out]
     have hiv:=HD.out.inv O.length (Nat.le_refl _)
     rw[List.take_length]at hiv
     have HKD:Hid (KOk (DT,DC)):=by unfold Hid;rw[hDK];exact hiv.out
     have hDs:DT.sz<=60:=by have h:=hiv.z2;rw[←hDK]at h;simp only at h;omega
     have hDl:DC.length<=6000:=by have h:=hiv.l2;rw[←hDK]at h;simp only at h;omega
     have hJs:JT.sz<=100:=by have h:=hiv.z1;rw[HJ.out]at h;simp only at h;omega
     have HJN:Hid (jn (t,tc) (DT,DC)=(JT,JC)):=by unfold Hid;rw[hDK,HD.out.eq,HJ.out]
     have HJO:=hid (jn_ok HK.out HKD.out)
     have HJ1:Hid (jnE t DT tc DC=0):=HJO.out.1
     have HJ2:Hid (jnT t DT tc DC=JT):=HJO.out.2.1.trans (congrArg Prod.fst HJN.out)
     have HJ3:Hid (jnC t DT tc DC=JC):=HJO.out.2.2.trans (congrArg Prod.snd HJN.out)
     have hNW:(NT,NC)=(chS txD (t,tc) O).2.1:=HI0.out.now
     have hrd:=HD.out.rd p
     rw[←hNW,HJ.out]at hrd
     have HRI:Hid (readI (NT,NC).1 p=readI JT p):=hrd.1
     have HRV:Hid (readV (NT,NC).1 p=readV JT p):=hrd.2
     obtain⟨V,HVF⟩:∃ q,Hid (readV JT p=q):=⟨_,rfl⟩
     obtain⟨I,HIF⟩:∃ q,Hid (readI JT p=q):=⟨_,rfl⟩
     have HVE:=hid (HRV.out.trans HVF.out)
     have HIE:=hid (HRI.out.trans HIF.out)
     clear hDK hiv hNW hrd
     have hlt4797:w.heap.size<w4.heap.size:=by omega
     have hne4797:w.heap.size≠w4.heap.size:=by omega
     have hnr4797:w4.heap.size≠w.heap.size:=by omega
     have hlt4128:w3.heap.size<w4.heap.size:=by omega
     have hne4128:w3.heap.size≠w4.heap.size:=by omega
     have hnr4128:w4.heap.size≠w3.heap.size:=by omega
     have HX2:Hid (∀ W,Below (w4.heap.size+1) (w4.alloc (.cells #[.slice A4x DT.es.length n4x,.slice B4x DT.ks.length m4x,.slice D4x DC.length k4x] 29)) W->(w4.heap.size+1<=(W).heap.size/\DT.rd W (W).heap.size (.slice A4x DT.es.length n4x) (.slice B4x DT.ks.length m4x)/\SlP W (W).heap.size 3 SpE (.slice D4x DC.length k4x) DC/\(W).cell? ⟨w4.heap.size,0,none⟩=some (.slice A4x DT.es.length n4x)/\(W).cell? ⟨w4.heap.size,1,none⟩=some (.slice B4x DT.ks.length m4x)/\(W).cell? ⟨w4.heap.size,2,none⟩=some (.slice D4x DC.length k4x)/\w3.heap.size+1<=(W).heap.size/\TxB W g okp v vo (t,tc) (NT,NC) O/\t.rd W (W).heap.size (.slice Ag t.es.length ng) (.slice Bg t.ks.length mg)/\SlP W (W).heap.size 3 SpE (.slice Cg tc.length kg) tc/\NT.rd W (W).heap.size (.slice An NT.es.length nn) (.slice Bn NT.ks.length mn)/\SlP W (W).heap.size 3 SpE (.slice Cn NC.length kn) NC/\OpL W (.slice Ao O.length no) O/\(W).cell? ⟨w3.heap.size,0,none⟩=some (.slice Ag t.es.length ng)/\(W).cell? ⟨w3.heap.size,1,none⟩=some (.slice Bg t.ks.length mg)/\(W).cell? ⟨w3.heap.size,2,none⟩=some (.slice Cg tc.length kg)/\(W).cell? ⟨w3.heap.size,3,none⟩=some (.slice Ao O.length no)/\(W).cell? ⟨w3.heap.size,4,none⟩=some (.slice An NT.es.length nn)/\(W).cell? ⟨w3.heap.size,5,none⟩=some (.slice Bn NT.ks.length mn)/\(W).cell? ⟨w3.heap.size,6,none⟩=some (.slice Cn NC.length kn)/\Below w.heap.size w W/\w.heap.size+1<=(W).heap.size/\t.rd W (W).heap.size (.slice A0 t.es.length n0) (.slice B0 t.ks.length m0)/\SlP W (W).heap.size 3 SpE (.slice D0 tc.length k0) tc/\OpL W (.slice A1 l.length n1) l/\SlP W (W).heap.size 1 StE (.slice A4 p.length n4) p/\(W).cell? ⟨w.heap.size,0,none⟩=some (.slice A0 t.es.length n0)/\(W).cell? ⟨w.heap.size,1,none⟩=some (.slice B0 t.ks.length m0)/\(W).cell? ⟨w.heap.size,2,none⟩=some (.slice D0 tc.length k0))):=fun W hW=>by
      have g0:=(hW.block w4.heap.size (by omega)).trans (Qc rfl)
      have hB:Below w4.heap.size w4 W:=((Below.refl _ w4).alloc (Nat.le_refl _) _).trans (hW.mono (by omega))
      exact⟨by have:=hW.size;simpa using this,QI hrd4 (fun b hb=>hb.2) hB,hsl4.slp (fun b hb=>hb.2) hB,Qa (i:=0) g0,Qa (i:=1) g0,Qa (i:=2) g0,HX1.out W (hbk4.out.trans (hB.mono (by omega)))⟩
     clear hrd4 hsl4
     go_wp2_with fail
     clear hs_t rx_t rt_g rc_g rt_n rc_n ro_n c0_t c1_t c2_t c3_t c4_t c5_t c6_t hB hs rt0 rc0 ro1 rl4 c00 c01 c02
     obtain⟨hs_x,rt_x,rc_x,c0_x,c1_x,c2_x,hs_t,rx_t,rt_g,rc_g,rt_n,rc_n,ro_n,c0_t,c1_t,c2_t,c3_t,c4_t,c5_t,c6_t,hB,hs,rt0,rc0,ro1,rl4,c00,c01,c02⟩:=HX2.out _ (Below.refl _ _)
     refine (XV tc DC t DT _ _ _ _ _ _ _ rt0 rt_x rc0 rc_x (by omega) (by omega) (by omega) (by omega)).mono ?_
     rw[HJ1.out,HJ2.out,HJ3.out]
     rintro e w5 ⟨xe5,xk5,xc5,rfl,hrd5,hsl5,hb⟩
     obtain⟨A5x,n5x,B5x,m5x,rfl,rfl⟩:=Qj hrd5
     obtain⟨D5x,k5x,rfl⟩:=hsl5.shape
     have hbk5:Hid (Below (w4.heap.size+1) (w4.alloc (.cells #[.slice A4x DT.es.length n4x,.slice B4x DT.ks.length m4x,.slice D4x DC.length k4x] 29)) w5):=hid (hb.mono (by first|omega|(simp;done)|(simp;omega)))
     clear hb
     clear hs_x rt_x rc_x c0_x c1_x c2_x hs_t rx_t rt_g rc_g rt_n rc_n ro_n c0_t c1_t c2_t c3_t c4_t c5_t c6_t hB hs rt0 rc0 ro1 rl4 c00 c01 c02
     obtain⟨hs_x,rt_x,rc_x,c0_x,c1_x,c2_x,hs_t,rx_t,rt_g,rc_g,rt_n,rc_n,ro_n,c0_t,c1_t,c2_t,c3_t,c4_t,c5_t,c6_t,hB,hs,rt0,rc0,ro1,rl4,c00,c01,c02⟩:=HX2.out _ hbk5.out
     have hlt5797:w.heap.size<w5.heap.size:=by omega
     have hne5797:w.heap.size≠w5.heap.size:=by omega
     have hnr5797:w5.heap.size≠w.heap.size:=by omega
     have hlt5128:w3.heap.size<w5.heap.size:=by omega
     have hne5128:w3.heap.size≠w5.heap.size:=by omega
     have hnr5128:w5.heap.size≠w3.heap.size:=by omega
     have hlt5872:w4.heap.size<w5.heap.size:=by omega
     have hne5872:w4.heap.size≠w5.heap.size:=by omega
     have hnr5872:w5.heap.size≠w4.heap.size:=by omega
     have HX3:Hid (∀ W,Below (w5.heap.size+1) (w5.alloc (.cells #[.slice A5x JT.es.length n5x,.slice B5x JT.ks.length m5x,.slice D5x JC.length k5x] 29)) W->(w5.heap.size+1<=(W).heap.size/\JT.rd W (W).heap.size (.slice A5x JT.es.length n5x) (.slice B5x JT.ks.length m5x)/\SlP W (W).heap.size 3 SpE (.slice D5x JC.length k5x) JC/\(W).cell? ⟨w5.heap.size,0,none⟩=some (.slice A5x JT.es.length n5x)/\(W).cell? ⟨w5.heap.size,1,none⟩=some (.slice B5x JT.ks.length m5x)/\(W).cell? ⟨w5.heap.size,2,none⟩=some (.slice D5x JC.length k5x)/\w4.heap.size+1<=(W).heap.size/\DT.rd W (W).heap.size (.slice A4x DT.es.length n4x) (.slice B4x DT.ks.length m4x)/\SlP W (W).heap.size 3 SpE (.slice D4x DC.length k4x) DC/\(W).cell? ⟨w4.heap.size,0,none⟩=some (.slice A4x DT.es.length n4x)/\(W).cell? ⟨w4.heap.size,1,none⟩=some (.slice B4x DT.ks.length m4x)/\(W).cell? ⟨w4.heap.size,2,none⟩=some (.slice D4x DC.length k4x)/\w3.heap.size+1<=(W).heap.size/\TxB W g okp v vo (t,tc) (NT,NC) O/\t.rd W (W).heap.size (.slice Ag t.es.length ng) (.slice Bg t.ks.length mg)/\SlP W (W).heap.size 3 SpE (.slice Cg tc.length kg) tc/\NT.rd W (W).heap.size (.slice An NT.es.length nn) (.slice Bn NT.ks.length mn)/\SlP W (W).heap.size 3 SpE (.slice Cn NC.length kn) NC/\OpL W (.slice Ao O.length no) O/\(W).cell? ⟨w3.heap.size,0,none⟩=some (.slice Ag t.es.length ng)/\(W).cell? ⟨w3.heap.size,1,none⟩=some (.slice Bg t.ks.length mg)/\(W).cell? ⟨w3.heap.size,2,none⟩=some (.slice Cg tc.length kg)/\(W).cell? ⟨w3.heap.size,3,none⟩=some (.slice Ao O.length no)/\(W).cell? ⟨w3.heap.size,4,none⟩=some (.slice An NT.es.length nn)/\(W).cell? ⟨w3.heap.size,5,none⟩=some (.slice Bn NT.ks.length mn)/\(W).cell? ⟨w3.heap.size,6,none⟩=some (.slice Cn NC.length kn)/\Below w.heap.size w W/\w.heap.size+1<=(W).heap.size/\t.rd W (W).heap.size (.slice A0 t.es.length n0) (.slice B0 t.ks.length m0)/\SlP W (W).heap.size 3 SpE (.slice D0 tc.length k0) tc/\OpL W (.slice A1 l.length n1) l/\SlP W (W).heap.size 1 StE (.slice A4 p.length n4) p/\(W).cell? ⟨w.heap.size,0,none⟩=some (.slice A0 t.es.length n0)/\(W).cell? ⟨w.heap.size,1,none⟩=some (.slice B0 t.ks.length m0)/\(W).cell? ⟨w.heap.size,2,none⟩=some (.slice D0 tc.length k0))):=fun W hW=>by
      have g0:=(hW.block w5.heap.size (by omega)).trans (Qc rfl)
      have hB:Below w5.heap.size w5 W:=((Below.refl _ w5).alloc (Nat.le_refl _) _).trans (hW.mono (by omega))
      exact⟨by have:=hW.size;simpa using this,QI hrd5 (fun b hb=>hb.2) hB,hsl5.slp (fun b hb=>hb.2) hB,Qa (i:=0) g0,Qa (i:=1) g0,Qa (i:=2) g0,HX2.out W (hbk5.out.trans (hB.mono (by omega)))⟩
     clear hrd5 hsl5
     go_wp2_with fail
     clear hs_x rt_x rc_x c0_x c1_x c2_x hs_t rx_t rt_g rc_g rt_n rc_n ro_n c0_t c1_t c2_t c3_t c4_t c5_t c6_t hB hs rt0 rc0 ro1 rl4 c00 c01 c02
     obtain⟨hs_y,rt_y,rc_y,c0_y,c1_y,c2_y,hs_x,rt_x,rc_x,c0_x,c1_x,c2_x,hs_t,rx_t,rt_g,rc_g,rt_n,rc_n,ro_n,c0_t,c1_t,c2_t,c3_t,c4_t,c5_t,c6_t,hB,hs,rt0,rc0,ro1,rl4,c00,c01,c02⟩:=HX3.out _ (Below.refl _ _)
     refine (Jx p _ rx_t rl4 (by show NT.sz<=_;omega)).mono ?_
     rw[HVE.out,HIE.out]
     rintro e w6 ⟨vl6,rfl,hsl6,hb⟩
     obtain⟨D6x,k6x,rfl⟩:=hsl6.shape
     have hbk6:Hid (Below (w5.heap.size+1) (w5.alloc (.cells #[.slice A5x JT.es.length n5x,.slice B5x JT.ks.length m5x,.slice D5x JC.length k5x] 29)) w6):=hid (hb.mono (by first|omega|(simp;done)|(simp;omega)))
     clear hb
     clear hs_y rt_y rc_y c0_y c1_y c2_y hs_x rt_x rc_x c0_x c1_x c2_x hs_t rx_t rt_g rc_g rt_n rc_n ro_n c0_t c1_t c2_t c3_t c4_t c5_t c6_t hB hs rt0 rc0 ro1 rl4 c00 c01 c02
     obtain⟨hs_y,rt_y,rc_y,c0_y,c1_y,c2_y,hs_x,rt_x,rc_x,c0_x,c1_x,c2_x,hs_t,rx_t,rt_g,rc_g,rt_n,rc_n,ro_n,c0_t,c1_t,c2_t,c3_t,c4_t,c5_t,c6_t,hB,hs,rt0,rc0,ro1,rl4,c00,c01,c02⟩:=HX3.out _ hbk6.out
     have hlt6797:w.heap.size<w6.heap.size:=by omega
     have hne6797:w.heap.size≠w6.heap.size:=by omega
     have hnr6797:w6.heap.size≠w.heap.size:=by omega
     have hlt6128:w3.heap.size<w6.heap.size:=by omega
     have hne6128:w3.heap.size≠w6.heap.size:=by omega
     have hnr6128:w6.heap.size≠w3.heap.size:=by omega
     have hlt6872:w4.heap.size<w6.heap.size:=by omega
     have hne6872:w4.heap.size≠w6.heap.size:=by omega
     have hnr6872:w6.heap.size≠w4.heap.size:=by omega
     have hlt6509:w5.heap.size<w6.heap.size:=by omega
     have hne6509:w5.heap.size≠w6.heap.size:=by omega
     have hnr6509:w6.heap.size≠w5.heap.size:=by omega
     have HX4:Hid (∀ W,Below (w6.heap.size+1) (w6.alloc (.cells #[.int .i64 V.kind,.bool V.on,.int .i64 V.n,.slice D6x V.l.length k6x] 67)) W->(w6.heap.size+1<=(W).heap.size/\SlP W (W).heap.size 1 StE (.slice D6x V.l.length k6x) V.l/\(W).cell? ⟨w6.heap.size,0,none⟩=some (.int .i64 V.kind)/\(W).cell? ⟨w6.heap.size,1,none⟩=some (.bool V.on)/\(W).cell? ⟨w6.heap.size,2,none⟩=some (.int .i64 V.n)/\(W).cell? ⟨w6.heap.size,3,none⟩=some (.slice D6x V.l.length k6x)/\w5.heap.size+1<=(W).heap.size/\JT.rd W (W).heap.size (.slice A5x JT.es.length n5x) (.slice B5x JT.ks.length m5x)/\SlP W (W).heap.size 3 SpE (.slice D5x JC.length k5x) JC/\(W).cell? ⟨w5.heap.size,0,none⟩=some (.slice A5x JT.es.length n5x)/\(W).cell? ⟨w5.heap.size,1,none⟩=some (.slice B5x JT.ks.length m5x)/\(W).cell? ⟨w5.heap.size,2,none⟩=some (.slice D5x JC.length k5x)/\w4.heap.size+1<=(W).heap.size/\DT.rd W (W).heap.size (.slice A4x DT.es.length n4x) (.slice B4x DT.ks.length m4x)/\SlP W (W).heap.size 3 SpE (.slice D4x DC.length k4x) DC/\(W).cell? ⟨w4.heap.size,0,none⟩=some (.slice A4x DT.es.length n4x)/\(W).cell? ⟨w4.heap.size,1,none⟩=some (.slice B4x DT.ks.length m4x)/\(W).cell? ⟨w4.heap.size,2,none⟩=some (.slice D4x DC.length k4x)/\w3.heap.size+1<=(W).heap.size/\TxB W g okp v vo (t,tc) (NT,NC) O/\t.rd W (W).heap.size (.slice Ag t.es.length ng) (.slice Bg t.ks.length mg)/\SlP W (W).heap.size 3 SpE (.slice Cg tc.length kg) tc/\NT.rd W (W).heap.size (.slice An NT.es.length nn) (.slice Bn NT.ks.length mn)/\SlP W (W).heap.size 3 SpE (.slice Cn NC.length kn) NC/\OpL W (.slice Ao O.length no) O/\(W).cell? ⟨w3.heap.size,0,none⟩=some (.slice Ag t.es.length ng)/\(W).cell? ⟨w3.heap.size,1,none⟩=some (.slice Bg t.ks.length mg)/\(W).cell? ⟨w3.heap.size,2,none⟩=some (.slice Cg tc.length kg)/\(W).cell? ⟨w3.heap.size,3,none⟩=some (.slice Ao O.length no)/\(W).cell? ⟨w3.heap.size,4,none⟩=some (.slice An NT.es.length nn)/\(W).cell? ⟨w3.heap.size,5,none⟩=some (.slice Bn NT.ks.length mn)/\(W).cell? ⟨w3.heap.size,6,none⟩=some (.slice Cn NC.length kn)/\Below w.heap.size w W/\w.heap.size+1<=(W).heap.size/\t.rd W (W).heap.size (.slice A0 t.es.length n0) (.slice B0 t.ks.length m0)/\SlP W (W).heap.size 3 SpE (.slice D0 tc.length k0) tc/\OpL W (.slice A1 l.length n1) l/\SlP W (W).heap.size 1 StE (.slice A4 p.length n4) p/\(W).cell? ⟨w.heap.size,0,none⟩=some (.slice A0 t.es.length n0)/\(W).cell? ⟨w.heap.size,1,none⟩=some (.slice B0 t.ks.length m0)/\(W).cell? ⟨w.heap.size,2,none⟩=some (.slice D0 tc.length k0))):=fun W hW=>by
      have g0:=(hW.block w6.heap.size (by omega)).trans (Qc rfl)
      have hB:Below w6.heap.size w6 W:=((Below.refl _ w6).alloc (Nat.le_refl _) _).trans (hW.mono (by omega))
      exact⟨by have:=hW.size;simpa using this,hsl6.slp (fun b hb=>hb.2) hB,Qa (i:=0) g0,Qa (i:=1) g0,Qa (i:=2) g0,Qa (i:=3) g0,HX3.out W (hbk6.out.trans (hB.mono (by omega)))⟩
     clear hsl6
     go_wp2_with fail
     clear hs_y rt_y rc_y c0_y c1_y c2_y hs_x rt_x rc_x c0_x c1_x c2_x hs_t rx_t rt_g rc_g rt_n rc_n ro_n c0_t c1_t c2_t c3_t c4_t c5_t c6_t hB hs rt0 rc0 ro1 rl4 c00 c01 c02
     obtain⟨hs_v,rl_v,c0_v,c1_v,c2_v,c3_v,hs_y,rt_y,rc_y,c0_y,c1_y,c2_y,hs_x,rt_x,rc_x,c0_x,c1_x,c2_x,hs_t,rx_t,rt_g,rc_g,rt_n,rc_n,ro_n,c0_t,c1_t,c2_t,c3_t,c4_t,c5_t,c6_t,hB,hs,rt0,rc0,ro1,rl4,c00,c01,c02⟩:=HX4.out _ (Below.refl _ _)
     refine (VK JT p _ _ _ _ rt_y rl4 (by omega)).mono ?_
     rw[HVF.out,HIF.out]
     rintro e w7 ⟨vl7,rfl,hsl7,hb⟩
     obtain⟨D7x,k7x,rfl⟩:=hsl7.shape
     have hbk7:Hid (Below (w6.heap.size+1) (w6.alloc (.cells #[.int .i64 V.kind,.bool V.on,.int .i64 V.n,.slice D6x V.l.length k6x] 67)) w7):=hid (hb.mono (by first|omega|(simp;done)|(simp;omega)))
     clear hb
     clear hs_v rl_v c0_v c1_v c2_v c3_v hs_y rt_y rc_y c0_y c1_y c2_y hs_x rt_x rc_x c0_x c1_x c2_x hs_t rx_t rt_g rc_g rt_n rc_n ro_n c0_t c1_t c2_t c3_t c4_t c5_t c6_t hB hs rt0 rc0 ro1 rl4 c00 c01 c02
     obtain⟨hs_v,rl_v,c0_v,c1_v,c2_v,c3_v,hs_y,rt_y,rc_y,c0_y,c1_y,c2_y,hs_x,rt_x,rc_x,c0_x,c1_x,c2_x,hs_t,rx_t,rt_g,rc_g,rt_n,rc_n,ro_n,c0_t,c1_t,c2_t,c3_t,c4_t,c5_t,c6_t,hB,hs,rt0,rc0,ro1,rl4,c00,c01,c02⟩:=HX4.out _ hbk7.out
     have hlt7797:w.heap.size<w7.heap.size:=by omega
     have hne7797:w.heap.size≠w7.heap.size:=by omega
     have hnr7797:w7.heap.size≠w.heap.size:=by omega
     have hlt7128:w3.heap.size<w7.heap.size:=by omega
     have hne7128:w3.heap.size≠w7.heap.size:=by omega
     have hnr7128:w7.heap.size≠w3.heap.size:=by omega
     have hlt7872:w4.heap.size<w7.heap.size:=by omega
     have hne7872:w4.heap.size≠w7.heap.size:=by omega
     have hnr7872:w7.heap.size≠w4.heap.size:=by omega
     have hlt7509:w5.heap.size<w7.heap.size:=by omega
     have hne7509:w5.heap.size≠w7.heap.size:=by omega
     have hnr7509:w7.heap.size≠w5.heap.size:=by omega
     have hlt7723:w6.heap.size<w7.heap.size:=by omega
     have hne7723:w6.heap.size≠w7.heap.size:=by omega
     have hnr7723:w7.heap.size≠w6.heap.size:=by omega
     have HX5:Hid (∀ W,Below (w7.heap.size+1) (w7.alloc (.cells #[.int .i64 V.kind,.bool V.on,.int .i64 V.n,.slice D7x V.l.length k7x] 67)) W->(w7.heap.size+1<=(W).heap.size/\SlP W (W).heap.size 1 StE (.slice D7x V.l.length k7x) V.l/\(W).cell? ⟨w7.heap.size,0,none⟩=some (.int .i64 V.kind)/\(W).cell? ⟨w7.heap.size,1,none⟩=some (.bool V.on)/\(W).cell? ⟨w7.heap.size,2,none⟩=some (.int .i64 V.n)/\(W).cell? ⟨w7.heap.size,3,none⟩=some (.slice D7x V.l.length k7x)/\w6.heap.size+1<=(W).heap.size/\SlP W (W).heap.size 1 StE (.slice D6x V.l.length k6x) V.l/\(W).cell? ⟨w6.heap.size,0,none⟩=some (.int .i64 V.kind)/\(W).cell? ⟨w6.heap.size,1,none⟩=some (.bool V.on)/\(W).cell? ⟨w6.heap.size,2,none⟩=some (.int .i64 V.n)/\(W).cell? ⟨w6.heap.size,3,none⟩=some (.slice D6x V.l.length k6x)/\w5.heap.size+1<=(W).heap.size/\JT.rd W (W).heap.size (.slice A5x JT.es.length n5x) (.slice B5x JT.ks.length m5x)/\SlP W (W).heap.size 3 SpE (.slice D5x JC.length k5x) JC/\(W).cell? ⟨w5.heap.size,0,none⟩=some (.slice A5x JT.es.length n5x)/\(W).cell? ⟨w5.heap.size,1,none⟩=some (.slice B5x JT.ks.length m5x)/\(W).cell? ⟨w5.heap.size,2,none⟩=some (.slice D5x JC.length k5x)/\w4.heap.size+1<=(W).heap.size/\DT.rd W (W).heap.size (.slice A4x DT.es.length n4x) (.slice B4x DT.ks.length m4x)/\SlP W (W).heap.size 3 SpE (.slice D4x DC.length k4x) DC/\(W).cell? ⟨w4.heap.size,0,none⟩=some (.slice A4x DT.es.length n4x)/\(W).cell? ⟨w4.heap.size,1,none⟩=some (.slice B4x DT.ks.length m4x)/\(W).cell? ⟨w4.heap.size,2,none⟩=some (.slice D4x DC.length k4x)/\w3.heap.size+1<=(W).heap.size/\TxB W g okp v vo (t,tc) (NT,NC) O/\t.rd W (W).heap.size (.slice Ag t.es.length ng) (.slice Bg t.ks.length mg)/\SlP W (W).heap.size 3 SpE (.slice Cg tc.length kg) tc/\NT.rd W (W).heap.size (.slice An NT.es.length nn) (.slice Bn NT.ks.length mn)/\SlP W (W).heap.size 3 SpE (.slice Cn NC.length kn) NC/\OpL W (.slice Ao O.length no) O/\(W).cell? ⟨w3.heap.size,0,none⟩=some (.slice Ag t.es.length ng)/\(W).cell? ⟨w3.heap.size,1,none⟩=some (.slice Bg t.ks.length mg)/\(W).cell? ⟨w3.heap.size,2,none⟩=some (.slice Cg tc.length kg)/\(W).cell? ⟨w3.heap.size,3,none⟩=some (.slice Ao O.length no)/\(W).cell? ⟨w3.heap.size,4,none⟩=some (.slice An NT.es.length nn)/\(W).cell? ⟨w3.heap.size,5,none⟩=some (.slice Bn NT.ks.length mn)/\(W).cell? ⟨w3.heap.size,6,none⟩=some (.slice Cn NC.length kn)/\Below w.heap.size w W/\w.heap.size+1<=(W).heap.size/\t.rd W (W).heap.size (.slice A0 t.es.length n0) (.slice B0 t.ks.length m0)/\SlP W (W).heap.size 3 SpE (.slice D0 tc.length k0) tc/\OpL W (.slice A1 l.length n1) l/\SlP W (W).heap.size 1 StE (.slice A4 p.length n4) p/\(W).cell? ⟨w.heap.size,0,none⟩=some (.slice A0 t.es.length n0)/\(W).cell? ⟨w.heap.size,1,none⟩=some (.slice B0 t.ks.length m0)/\(W).cell? ⟨w.heap.size,2,none⟩=some (.slice D0 tc.length k0))):=fun W hW=>by
      have g0:=(hW.block w7.heap.size (by omega)).trans (Qc rfl)
      have hB:Below w7.heap.size w7 W:=((Below.refl _ w7).alloc (Nat.le_refl _) _).trans (hW.mono (by omega))
      exact⟨by have:=hW.size;simpa using this,hsl7.slp (fun b hb=>hb.2) hB,Qa (i:=0) g0,Qa (i:=1) g0,Qa (i:=2) g0,Qa (i:=3) g0,HX4.out W (hbk7.out.trans (hB.mono (by omega)))⟩
     clear hsl7
     go_wp2_with fail
     clear hs_v rl_v c0_v c1_v c2_v c3_v hs_y rt_y rc_y c0_y c1_y c2_y hs_x rt_x rc_x c0_x c1_x c2_x hs_t rx_t rt_g rc_g rt_n rc_n ro_n c0_t c1_t c2_t c3_t c4_t c5_t c6_t hB hs rt0 rc0 ro1 rl4 c00 c01 c02
     obtain⟨hs_u,rl_u,c0_u,c1_u,c2_u,c3_u,hs_v,rl_v,c0_v,c1_v,c2_v,c3_v,hs_y,rt_y,rc_y,c0_y,c1_y,c2_y,hs_x,rt_x,rc_x,c0_x,c1_x,c2_x,hs_t,rx_t,rt_g,rc_g,rt_n,rc_n,ro_n,c0_t,c1_t,c2_t,c3_t,c4_t,c5_t,c6_t,hB,hs,rt0,rc0,ro1,rl4,c00,c01,c02⟩:=HX5.out _ (Below.refl _ _)
     refine (KQ V V _ _ _ rl_v rl_u).mono ?_
     rw[qXa]
     rintro e w8 ⟨rfl,hb⟩
     have hbk8:Hid (Below (w7.heap.size+1) (w7.alloc (.cells #[.int .i64 V.kind,.bool V.on,.int .i64 V.n,.slice D7x V.l.length k7x] 67)) w8):=hid (hb.mono (by first|omega|(simp;done)|(simp;omega)))
     clear hb
     clear hs_u rl_u c0_u c1_u c2_u c3_u hs_v rl_v c0_v c1_v c2_v c3_v hs_y rt_y rc_y c0_y c1_y c2_y hs_x rt_x rc_x c0_x c1_x c2_x hs_t rx_t rt_g rc_g rt_n rc_n ro_n c0_t c1_t c2_t c3_t c4_t c5_t c6_t hB hs rt0 rc0 ro1 rl4 c00 c01 c02
     obtain⟨hs_u,rl_u,c0_u,c1_u,c2_u,c3_u,hs_v,rl_v,c0_v,c1_v,c2_v,c3_v,hs_y,rt_y,rc_y,c0_y,c1_y,c2_y,hs_x,rt_x,rc_x,c0_x,c1_x,c2_x,hs_t,rx_t,rt_g,rc_g,rt_n,rc_n,ro_n,c0_t,c1_t,c2_t,c3_t,c4_t,c5_t,c6_t,hB,hs,rt0,rc0,ro1,rl4,c00,c01,c02⟩:=HX5.out _ hbk8.out
     go_wp2_with fail
     go_ret
     exact⟨rfl,hB⟩
    ·skip
     have hE':(E==0)=false:=by simpa using hE
     have hE2:(E != 0)=true:=by simpa using hE
     have HSM2:Hid ((trEq DT (.mk [] [])&&decide (DC=[]))=true):=by unfold Hid;rw[←HDT.out,←HDC.out,ZA (by rw[HDE.out];exact hE)];exact (by rw[show kn0.1=Tr.mk [] [] from rfl,X4.2 rfl];rfl)
     clear hE
     have hlt4797:w.heap.size<w4.heap.size:=by omega
     have hne4797:w.heap.size≠w4.heap.size:=by omega
     have hnr4797:w4.heap.size≠w.heap.size:=by omega
     have hlt4128:w3.heap.size<w4.heap.size:=by omega
     have hne4128:w3.heap.size≠w4.heap.size:=by omega
     have hnr4128:w4.heap.size≠w3.heap.size:=by omega
     have HX2:Hid (∀ W,Below (w4.heap.size+1) (w4.alloc (.cells #[.slice A4x DT.es.length n4x,.slice B4x DT.ks.length m4x,.slice D4x DC.length k4x] 29)) W->(w4.heap.size+1<=(W).heap.size/\DT.rd W (W).heap.size (.slice A4x DT.es.length n4x) (.slice B4x DT.ks.length m4x)/\SlP W (W).heap.size 3 SpE (.slice D4x DC.length k4x) DC/\(W).cell? ⟨w4.heap.size,0,none⟩=some (.slice A4x DT.es.length n4x)/\(W).cell? ⟨w4.heap.size,1,none⟩=some (.slice B4x DT.ks.length m4x)/\(W).cell? ⟨w4.heap.size,2,none⟩=some (.slice D4x DC.length k4x)/\w3.heap.size+1<=(W).heap.size/\TxB W g okp v vo (t,tc) (NT,NC) O/\t.rd W (W).heap.size (.slice Ag t.es.length ng) (.slice Bg t.ks.length mg)/\SlP W (W).heap.size 3 SpE (.slice Cg tc.length kg) tc/\NT.rd W (W).heap.size (.slice An NT.es.length nn) (.slice Bn NT.ks.length mn)/\SlP W (W).heap.size 3 SpE (.slice Cn NC.length kn) NC/\OpL W (.slice Ao O.length no) O/\(W).cell? ⟨w3.heap.size,0,none⟩=some (.slice Ag t.es.length ng)/\(W).cell? ⟨w3.heap.size,1,none⟩=some (.slice Bg t.ks.length mg)/\(W).cell? ⟨w3.heap.size,2,none⟩=some (.slice Cg tc.length kg)/\(W).cell? ⟨w3.heap.size,3,none⟩=some (.slice Ao O.length no)/\(W).cell? ⟨w3.heap.size,4,none⟩=some (.slice An NT.es.length nn)/\(W).cell? ⟨w3.heap.size,5,none⟩=some (.slice Bn NT.ks.length mn)/\(W).cell? ⟨w3.heap.size,6,none⟩=some (.slice Cn NC.length kn)/\Below w.heap.size w W/\w.heap.size+1<=(W).heap.size/\t.rd W (W).heap.size (.slice A0 t.es.length n0) (.slice B0 t.ks.length m0)/\SlP W (W).heap.size 3 SpE (.slice D0 tc.length k0) tc/\OpL W (.slice A1 l.length n1) l/\SlP W (W).heap.size 1 StE (.slice A4 p.length n4) p/\(W).cell? ⟨w.heap.size,0,none⟩=some (.slice A0 t.es.length n0)/\(W).cell? ⟨w.heap.size,1,none⟩=some (.slice B0 t.ks.length m0)/\(W).cell? ⟨w.heap.size,2,none⟩=some (.slice D0 tc.length k0))):=fun W hW=>by
      have g0:=(hW.block w4.heap.size (by omega)).trans (Qc rfl)
      have hB:Below w4.heap.size w4 W:=((Below.refl _ w4).alloc (Nat.le_refl _) _).trans (hW.mono (by omega))
      exact⟨by have:=hW.size;simpa using this,QI hrd4 (fun b hb=>hb.2) hB,hsl4.slp (fun b hb=>hb.2) hB,Qa (i:=0) g0,Qa (i:=1) g0,Qa (i:=2) g0,HX1.out W (hbk4.out.trans (hB.mono (by omega)))⟩
     clear hrd4 hsl4
     go_wp2_with fail
     clear hs_t rx_t rt_g rc_g rt_n rc_n ro_n c0_t c1_t c2_t c3_t c4_t c5_t c6_t hB hs rt0 rc0 ro1 rl4 c00 c01 c02
     obtain⟨hs_x,rt_x,rc_x,c0_x,c1_x,c2_x,hs_t,rx_t,rt_g,rc_g,rt_n,rc_n,ro_n,c0_t,c1_t,c2_t,c3_t,c4_t,c5_t,c6_t,hB,hs,rt0,rc0,ro1,rl4,c00,c01,c02⟩:=HX2.out _ (Below.refl _ _)
     refine (Xt DT (.mk [] []) DC [] _ _ _ _ _ _ _ rt_x VO rc_x SlP.nil).mono ?_
     rw[HSM2.out]
     rintro e w5 ⟨rfl,hb⟩
     have hbk5:Hid (Below (w4.heap.size+1) (w4.alloc (.cells #[.slice A4x DT.es.length n4x,.slice B4x DT.ks.length m4x,.slice D4x DC.length k4x] 29)) w5):=hid (hb.mono (by first|omega|(simp;done)|(simp;omega)))
     clear hb
     clear hs_x rt_x rc_x c0_x c1_x c2_x hs_t rx_t rt_g rc_g rt_n rc_n ro_n c0_t c1_t c2_t c3_t c4_t c5_t c6_t hB hs rt0 rc0 ro1 rl4 c00 c01 c02
     obtain⟨hs_x,rt_x,rc_x,c0_x,c1_x,c2_x,hs_t,rx_t,rt_g,rc_g,rt_n,rc_n,ro_n,c0_t,c1_t,c2_t,c3_t,c4_t,c5_t,c6_t,hB,hs,rt0,rc0,ro1,rl4,c00,c01,c02⟩:=HX2.out _ hbk5.out
     go_wp2_with fail
     go_ret
     exact⟨rfl,hB⟩
end Go.Proofs.YtidebdbjekijkaaGreat
namespace Go.Proofs.YtidebdbjekijkaaGreat
open Go.ChangeShapes Go.WideShapes Go.ChangeAt Go.RowKit
theorem okInt:Tryz.prog.readableRec 3=true/\3<Tryz.prog.types.size:=⟨by kernel_rfl,of_decide_eq_true (by kernel_rfl)⟩
theorem qKn {H:Type}{enc:TypeId×Value->H}{W:World}{base:Nat}{v:Value}{d:DataW H}{p:List MemPlace}(hv:Value.okWide Tryz.prog W .any base 3 v)(h:DataW.Trod enc Tryz.prog W 0 (fun _=>true) true 3 v d p) :
  ∃ n:Int,v=.int .i64 n/\I64 n:=by
 obtain⟨n,rfl,_,_,hw⟩:=open_int Tryz.underlying3 hv h
 exact⟨n,rfl,Xj hw⟩
theorem qXh {H:Type}{enc:TypeId×Value->H}{P:Program}{W:World}{t0 t1 t2 t3 t4:TypeId}{args:Array Value}{ds:List (DataW H)}{ps:List MemPlace}(h:DataW.TrodAll enc P W 0 (fun _=>true) true [t0,t1,t2,t3,t4] args.toList ds ps) :
  ∃ v0 v1 v2 v3 v4 d0 d1 d2 d3 d4 p0 p1 p2 p3 p4,args=#[v0,v1,v2,v3,v4]/\ds=[d0,d1,d2,d3,d4]/\ps=p0++p1++p2++p3++p4/\DataW.Trod enc P W 0 (fun _=>true) true t0 v0 d0 p0/\DataW.Trod enc P W 0 (fun _=>true) true t1 v1 d1 p1/\DataW.Trod enc P W 0 (fun _=>true) true t2 v2 d2 p2/\DataW.Trod enc P W 0 (fun _=>true) true t3 v3 d3 p3/\DataW.Trod enc P W 0 (fun _=>true) true t4 v4 d4 p4:=by
 obtain⟨v0,vs,d0,ds',p0,q,hargs,rfl,rfl,h0,hr⟩:=trodAll_cons h
 obtain⟨v1,vs1,d1,ds1,p1,q1,rfl,rfl,rfl,h1,hr1⟩:=trodAll_cons hr
 obtain⟨v2,vs2,d2,ds2,p2,q2,rfl,rfl,rfl,h2,hr2⟩:=trodAll_cons hr1
 obtain⟨v3,vs3,d3,ds3,p3,q3,rfl,rfl,rfl,h3,hr3⟩:=trodAll_cons hr2
 obtain⟨v4,vs4,d4,ds4,p4,q4,rfl,rfl,rfl,h4,hr4⟩:=trodAll_cons hr3
 obtain⟨rfl,rfl,rfl⟩:=trodAll_nil hr4
 exact⟨v0,v1,v2,v3,v4,d0,d1,d2,d3,d4,p0,p1,p2,p3,p4,by cases args;simp_all,rfl,by simp,h0,h1,h2,h3,h4⟩
end Go.Proofs.YtidebdbjekijkaaGreat
