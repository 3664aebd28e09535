/- What the laws need. No condition but those that each lemma states. -/
import Derived.Deep.Slices
import Derived.ProofKit
import Derived.SizedLaws
import Derived.Test.YtbcoelggdikipaaGreatProg
import Derived.Test.YtbcoelggdikipaaGreatRows
import Derived.Test.YtbcoelggdikipaaGreatUq15
import Derived.Test.YtbcoelggdikipaaGreatUq11
import Derived.Test.YtbcoelggdikipaaGreatUq2
import Derived.Test.YtbcoelggdikipaaGreatUq14
import Derived.Test.YtbcoelggdikipaaGreatUq12
import Derived.Test.YtbcoelggdikipaaGreatUq13
import Derived.Test.YtbcoelggdikipaaGreatUq3
import Derived.Test.YtbcoelggdikipaaGreatUq1
set_option maxRecDepth 100000
set_option maxHeartbeats 8000000
set_option linter.unusedSimpArgs false
namespace Go.Proofs.YtbcoelggdikipaaGreat
open Go.RowKit
def nmD (dc fr:Int)(k:Nat):Dt:=⟨dc,fr+(k:Int)⟩
theorem zYi {dc fr:Int}{i j:Nat}(h:nmD dc fr i=nmD dc fr j):i=j:=by
 have:=congrArg Dt.n h
 simp only[nmD]at this
 omega
def delI (G:Kn)(ops:List Opr)(dc fr:Int):Int:=
 if ops.length=0 then 7 else if fr<1∨1099511627776<fr∨Dt.right ⟨dc,fr+(ops.length:Int)-1⟩=false then 1 else if someD G.2 dc fr ops.length=true then 1 else 0
def delK (G:Kn)(ops:List Opr)(dc fr:Int):Kn:=if delI G ops dc fr=0 then (chS (nmD dc fr) G ops).2.2 else kn0
theorem ZM {G:Kn}{ops:List Opr}{dc fr:Int}(h:delI G ops dc fr≠0):delK G ops dc fr=kn0:=if_neg h
theorem qUr {G:Kn}{ops:List Opr}{dc fr:Int}(h:delI G ops dc fr=0):delK G ops dc fr=(chS (nmD dc fr) G ops).2.2:=if_pos h
structure DelF (G:Kn)(ops:List Opr)(dc fr:Int):Prop where
 rk:∀ k,k<ops.length->(nmD dc fr k).right=true
 no:∀ k,k<ops.length->hasC G.2 (nmD dc fr k)=false
 okn:okTx (nmD dc fr) G ops
 inv:∀ k,k<=ops.length->ChI (nmD dc fr) G k (chS (nmD dc fr) G (ops.take k))
 eq:jn G (chS (nmD dc fr) G ops).2.2=(chS (nmD dc fr) G ops).2.1
 rd:∀ p,readI (chS txD G ops).2.1.1 p=readI (chS (nmD dc fr) G ops).2.1.1 p/\readV (chS txD G ops).2.1.1 p=readV (chS (nmD dc fr) G ops).2.1.1 p
theorem zXe {dc fr:Int}{n:Nat}(f1:1<=fr)(h:Dt.right ⟨dc,fr+(n:Int)-1⟩=true)(k:Nat)(hk:k<n):(nmD dc fr k).right=true:=by
 unfold Dt.right at h ⊢
 rw[decide_eq_true_eq]at h ⊢
 simp only[nmD]at h ⊢
 omega
theorem qUs {G:Kn}{ops:List Opr}{dc fr:Int}(hG:KOk G)(hz:G.1.sz<=40)(hl:ops.length<=12)(hown:∀ k,k<12->hasC G.2 (txD k)=false)(hok:okTx txD G ops)(h:delI G ops dc fr=0):DelF G ops dc fr:=by
 unfold delI at h
 split at h
 ·cases h
 ·split at h
  ·cases h
  ·rename_i h0 h1
   split at h
   ·cases h
   ·rename_i h2
    have f1:1<=fr:=by
     rcases Int.lt_or_le fr 1 with h|h
     ·exact absurd (.inl h) h1
     ·exact h
    have hr:Dt.right ⟨dc,fr+(ops.length:Int)-1⟩=true:=by
     cases hh:Dt.right ⟨dc,fr+(ops.length:Int)-1⟩
     ·exact absurd (.inr (.inr hh)) h1
     ·rfl
    have rk:=zXe f1 hr
    have no:∀ k,k<ops.length->hasC G.2 (nmD dc fr k)=false:=fun k hk=>by
     cases hh:hasC G.2 (nmD dc fr k)
     ·rfl
     ·exact absurd (Yd.2 ⟨k,hk,hh⟩) h2
    have hc:=zQ8 (nm:=nmD dc fr) hG hz hl hown hok rk no (fun _ _=>zYi)
    exact⟨rk,no,(hc []).1,Vl hG (by omega) hl (hc []).1,(hc []).2.1,fun p=>(hc p).2.2⟩
def DelL (B:Nat)(wr:World)(s:Nat×Kn×Kn):Prop:=
 ∃ ne nk nc oe ok oc,wr.heap[B]?=some (.cells #[ne,nk,nc] 29 (0,0))/\wr.heap[B+1]?=some (.cells #[oe,ok,oc] 29 (0,0))/\s.2.1.1.rda wr (fun b=>b≠B/\b≠B+1/\b<wr.heap.size) ne nk/\SlA wr (fun b=>b≠B/\b≠B+1/\b<wr.heap.size) 3 SpE nc s.2.1.2 /\
  s.2.2.1.rda wr (fun b=>B+2<=b/\b<wr.heap.size) oe ok/\SlA wr (fun b=>B+2<=b/\b<wr.heap.size) 3 SpE oc s.2.2.2
theorem qXl {w:World}{G N:Kn}{ops:List Opr}{g:Nat}{okp:Nat->Prop}{v:Nat->V3}{vo:Value}(dc fr:Int)(h:TxB w g okp v vo G N ops)(hG:KOk G)(hz:G.1.sz<=40)(hz2:G.2.length<=40)(hl:ops.length<=12)(hF:delI G ops dc fr=0->DelF G ops dc fr)(hdc:I64 dc)(_:I64 fr) :
  Calls Tryz.prog 31 #[.pointer (some ⟨g,0,none⟩),.int .i64 dc,.int .i64 fr] w (RetCE w (delK G ops dc fr).1 (delK G ops dc fr).2 (delI G ops dc fr)):=by
 have HST:=hid h
 have HF:=hid hF
 have HGK:=hid hG
 have hgl:=h.lt
 obtain⟨Ao,no,hvo⟩:=OwnP.shape h.own
 subst hvo
 obtain⟨a0,b0,c0,hv0⟩:∃ a b c,v 0=(a,b,c):=⟨_,_,_,rfl⟩
 have hrG:=h.rdG
 have hsG:=h.slG
 rw[hv0]at hrG hsG
 obtain⟨Ag,ng,Bg,mg,e1,e2⟩:=Qk hrG
 obtain⟨Cg,kg,e3,_⟩:=hsG
 simp only at e1 e2 e3
 subst e1;subst e2;subst e3
 have HV0:=hid hv0
 have HOL:=hid (h.opl (by unfold Big;omega))
 have HX:Hid (∀ W,Below (w.heap.size+1) (w.alloc (.cells #[.slice none 0 0,.slice none 0 0,.slice none 0 0] 29)) W->(Below w.heap.size w W/\w.heap.size+1<=W.heap.size/\W.heap[w.heap.size]?=some (.cells #[.slice none 0 0,.slice none 0 0,.slice none 0 0] 29 (0,0))/\W.cell? ⟨g,0,none⟩=some (.slice Ag G.1.es.length ng)/\W.cell? ⟨g,1,none⟩=some (.slice Bg G.1.ks.length mg)/\W.cell? ⟨g,2,none⟩=some (.slice Cg G.2.length kg)/\W.cell? ⟨g,6,none⟩=some (.slice Ao ops.length no) /\
   G.1.rd W W.heap.size (.slice Ag G.1.es.length ng) (.slice Bg G.1.ks.length mg)/\SlP W W.heap.size 3 SpE (.slice Cg G.2.length kg) G.2)):=fun W hW=>by
  have hB:Below w.heap.size w W:=((Below.refl _ w).alloc (Nat.le_refl _) _).trans (hW.mono (by omega))
  have hs:=HST.out.grow hB
  have r1:=hs.rdG
  have r2:=hs.slG
  obtain⟨d0,d1,d2,_,_,_,d6⟩:=hs.cells
  rw[HV0.out]at r1 r2 d0 d1 d2
  exact⟨hB,by have:=hW.size;simpa using this,(hW.block _ (by omega)).trans (Qd rfl),d0,d1,d2,d6,r1,r2⟩
 clear h hG hrG hv0 hF
 have hgw:g≠w.heap.size:=by omega
 have hgw':w.heap.size≠g:=by omega
 go_enter Tryz.func31,Tryz.ntmps31
 by_cases h0:ops.length=0
 ·have hE:delI G ops dc fr=7:=if_pos h0
  have h0i:((ops.length:Int)==0)=true:=by simp[h0]
  have h0j:decide ((ops.length:Int)=0)=true:=by simp[h0]
  clear h0
  have HDI:=hid hE
  have HKN:=hid (ZM (by rw[HDI.out];decide))
  clear hE
  obtain⟨hBx,hsx,hGx,d0,d1,d2,d6,_,_⟩:=HX.out _ (Below.refl _ _)
  have HBX:=hid hBx
  have HGX:=hid hGx
  obtain⟨k0,k1,k2,z0,z1,z2⟩:=bz3 hGx
  clear hBx hGx
  go_wp2_with fail
  obtain⟨r0,r1,r2,_⟩:=box3 HGX.out (.slice none 0 0) (.slice none 0 0) (.slice none 0 0)
  refine bodyPost_ret (v:=.tuple #[.agg #[.slice none 0 0,.slice none 0 0,.slice none 0 0],.int .i64 7]) (by simp[results,Tryz.results31,go_sem,r0,r1,r2]<;>rfl) rfl ⟨.slice none 0 0,.slice none 0 0,.slice none 0 0,by first|rfl|rw[HDI.out],?_,?_,?_⟩
  ·rw[HKN.out];exact Qo _ _
  ·rw[HKN.out];show SlA _ _ 3 SpE (.slice none 0 0) ([]:List Sp)
   exact SlA.nil
  ·first|with_reducible exact HBX.out|exact ((HBX.out.setCell (p:=⟨w.heap.size,0,none⟩) (by simp) _).setCell (p:=⟨w.heap.size,1,none⟩) (by simp) _).setCell (p:=⟨w.heap.size,2,none⟩) (by simp) _
 have h0i:((ops.length:Int)==0)=false:=by simpa using h0
 have h0j:decide ((ops.length:Int)=0)=false:=by simpa using h0
 have hlp:(0:Int)<(ops.length:Int):=by omega
 by_cases h1:fr<1
 ·have hE:delI G ops dc fr=1:=(if_neg h0).trans (if_pos (.inl h1))
  have h1j:decide (fr<1)=true:=decide_eq_true h1
  have HDI:=hid hE
  have HKN:=hid (ZM (by rw[HDI.out];decide))
  clear hE
  obtain⟨hBx,hsx,hGx,d0,d1,d2,d6,_,_⟩:=HX.out _ (Below.refl _ _)
  have HBX:=hid hBx
  have HGX:=hid hGx
  obtain⟨k0,k1,k2,z0,z1,z2⟩:=bz3 hGx
  clear hBx hGx
  go_wp2_with fail
  obtain⟨r0,r1,r2,_⟩:=box3 HGX.out (.slice none 0 0) (.slice none 0 0) (.slice none 0 0)
  refine bodyPost_ret (v:=.tuple #[.agg #[.slice none 0 0,.slice none 0 0,.slice none 0 0],.int .i64 1]) (by simp[results,Tryz.results31,go_sem,r0,r1,r2]<;>rfl) rfl ⟨.slice none 0 0,.slice none 0 0,.slice none 0 0,by first|rfl|rw[HDI.out],?_,?_,?_⟩
  ·rw[HKN.out];exact Qo _ _
  ·rw[HKN.out];show SlA _ _ 3 SpE (.slice none 0 0) ([]:List Sp)
   exact SlA.nil
  ·first|with_reducible exact HBX.out|exact ((HBX.out.setCell (p:=⟨w.heap.size,0,none⟩) (by simp) _).setCell (p:=⟨w.heap.size,1,none⟩) (by simp) _).setCell (p:=⟨w.heap.size,2,none⟩) (by simp) _
 have h1j:decide (fr<1)=false:=decide_eq_false h1
 by_cases h2:1099511627776<fr
 ·have hE:delI G ops dc fr=1:=(if_neg h0).trans (if_pos (.inr (.inl h2)))
  have h2j:decide (1099511627776<fr)=true:=decide_eq_true h2
  have HDI:=hid hE
  have HKN:=hid (ZM (by rw[HDI.out];decide))
  clear hE
  obtain⟨hBx,hsx,hGx,d0,d1,d2,d6,_,_⟩:=HX.out _ (Below.refl _ _)
  have HBX:=hid hBx
  have HGX:=hid hGx
  obtain⟨k0,k1,k2,z0,z1,z2⟩:=bz3 hGx
  clear hBx hGx
  go_wp2_with fail
  obtain⟨r0,r1,r2,_⟩:=box3 HGX.out (.slice none 0 0) (.slice none 0 0) (.slice none 0 0)
  refine bodyPost_ret (v:=.tuple #[.agg #[.slice none 0 0,.slice none 0 0,.slice none 0 0],.int .i64 1]) (by simp[results,Tryz.results31,go_sem,r0,r1,r2]<;>rfl) rfl ⟨.slice none 0 0,.slice none 0 0,.slice none 0 0,by first|rfl|rw[HDI.out],?_,?_,?_⟩
  ·rw[HKN.out];exact Qo _ _
  ·rw[HKN.out];show SlA _ _ 3 SpE (.slice none 0 0) ([]:List Sp)
   exact SlA.nil
  ·first|with_reducible exact HBX.out|exact ((HBX.out.setCell (p:=⟨w.heap.size,0,none⟩) (by simp) _).setCell (p:=⟨w.heap.size,1,none⟩) (by simp) _).setCell (p:=⟨w.heap.size,2,none⟩) (by simp) _
 have h2j:decide (1099511627776<fr)=false:=decide_eq_false h2
 have hw1:IntKind.i64.wrap (fr+(ops.length:Int))=fr+(ops.length:Int):=IntWalk.i64_in _ (by omega)
 have hw2:IntKind.i64.wrap (fr+(ops.length:Int)-1)=fr+(ops.length:Int)-1:=IntWalk.i64_in _ (by omega)
 obtain⟨R,HR⟩:∃ q,Hid (Dt.right ⟨dc,fr+(ops.length:Int)-1⟩=q):=⟨_,rfl⟩
 obtain⟨_,hs0,_,d0,d1,d2,d6,_,_⟩:=HX.out _ (Below.refl _ _)
 go_wp2_with fail
 refine (Qy ⟨dc,fr+(ops.length:Int)-1⟩ _).mono ?_
 rw[HR.out]
 rintro e w1 ⟨rfl,hb1⟩
 have HB1:=hid (hb1.mono (show w.heap.size+1<=_ by simp))
 clear hb1 d0 d1 d2 d6 hs0
 cases R
 ·have hE:delI G ops dc fr=1:=(if_neg h0).trans (if_pos (.inr (.inr HR.out)))
  have HDI:=hid hE
  have HKN:=hid (ZM (by rw[HDI.out];decide))
  clear hE
  obtain⟨hBx,hsx,hGx,d0,d1,d2,d6,_,_⟩:=HX.out _ HB1.out
  have HBX:=hid hBx
  have HGX:=hid hGx
  obtain⟨k0,k1,k2,z0,z1,z2⟩:=bz3 hGx
  clear hBx hGx
  go_wp2_with fail
  obtain⟨r0,r1,r2,_⟩:=box3 HGX.out (.slice none 0 0) (.slice none 0 0) (.slice none 0 0)
  refine bodyPost_ret (v:=.tuple #[.agg #[.slice none 0 0,.slice none 0 0,.slice none 0 0],.int .i64 1]) (by simp[results,Tryz.results31,go_sem,r0,r1,r2]<;>rfl) rfl ⟨.slice none 0 0,.slice none 0 0,.slice none 0 0,by first|rfl|rw[HDI.out],?_,?_,?_⟩
  ·rw[HKN.out];exact Qo _ _
  ·rw[HKN.out];show SlA _ _ 3 SpE (.slice none 0 0) ([]:List Sp)
   exact SlA.nil
  ·first|with_reducible exact HBX.out|exact ((HBX.out.setCell (p:=⟨w.heap.size,0,none⟩) (by simp) _).setCell (p:=⟨w.heap.size,1,none⟩) (by simp) _).setCell (p:=⟨w.heap.size,2,none⟩) (by simp) _
 have hR0:Dt.right ⟨dc,fr⟩=true:=by
  have h:=zXe (by omega) HR.out 0 (by omega)
  simpa[nmD] using h
 have HR0:=hid hR0
 clear hR0
 obtain⟨_,hs1,_,d0,d1,d2,d6,_,_⟩:=HX.out _ HB1.out
 go_wp2_with fail
 refine (Vn dc fr (fr+(ops.length:Int)-1) _ HR0.out HR.out (by omega)).mono ?_
 rintro e w2 ⟨vn,rfl,hsn,hb2⟩
 obtain⟨An,nn,hv2⟩:=hsn.shape
 subst hv2
 have HB2:=hid (HB1.out.trans (hb2.mono hs1))
 have HSN:=hid (hsn.slp (fun b hb=>hb.2) (Below.refl _ _))
 clear hb2 d0 d1 d2 d6 hsn
 have HAP:=hid (Ku HR0.out HR.out (by omega))
 have HML:=hid ((qQ9 (c:=G.2) (dc:=dc) (fr:=fr) (n:=ops.length) HGK.out.ap HR0.out HR.out (by omega)).1)
 have hml:(ctxBy [⟨dc,fr,fr+(ops.length:Int)-1⟩] G.2 1).length<=Big:=by have:=Yn [⟨dc,fr,fr+(ops.length:Int)-1⟩] G.2 1;unfold Big at *;simp at *;omega
 obtain⟨M,HM⟩:∃ q,Hid (ctxBy [⟨dc,fr,fr+(ops.length:Int)-1⟩] G.2 1=q):=⟨_,rfl⟩
 rw[HM.out]at hml
 obtain⟨_,hs2,_,d0,d1,d2,d6,_,rs2⟩:=HX.out _ HB2.out
 go_wp2_with fail
 refine (qQ8 [⟨dc,fr,fr+(ops.length:Int)-1⟩] G.2 _ _ _ HSN.out rs2 HAP.out HGK.out.ap (by simp) (by omega)).mono ?_
 rw[HM.out]
 rintro e w3 ⟨vm,rfl,hom,hb3⟩
 obtain⟨Am,nm,hv3⟩:=OwnP.shape hom
 subst hv3
 have HB3:=hid (HB2.out.trans (hb3.mono hs2))
 clear hb3 d0 d1 d2 d6 hom rs2
 cases hsd:someD G.2 dc fr ops.length
 case true=>
  have hE:delI G ops dc fr=1:=(if_neg h0).trans ((if_neg (by rw[HR.out];simp;omega)).trans (if_pos hsd))
  have hmj:(0:Int)<(M.length:Int):=by have h:=HML.out.2 hsd;rw[HM.out]at h;omega
  have hmk:decide ((0:Int)<(M.length:Int))=true:=decide_eq_true hmj
  have hmn:0<M.length:=by omega
  have hmd:decide (0<M.length)=true:=decide_eq_true hmn
  have HDI:=hid hE
  have HKN:=hid (ZM (by rw[HDI.out];decide))
  clear hE
  obtain⟨hBx,hsx,hGx,d0,d1,d2,d6,_,_⟩:=HX.out _ HB3.out
  have HBX:=hid hBx
  have HGX:=hid hGx
  obtain⟨k0,k1,k2,z0,z1,z2⟩:=bz3 hGx
  clear hBx hGx
  go_wp2_with fail
  obtain⟨r0,r1,r2,_⟩:=box3 HGX.out (.slice none 0 0) (.slice none 0 0) (.slice none 0 0)
  refine bodyPost_ret (v:=.tuple #[.agg #[.slice none 0 0,.slice none 0 0,.slice none 0 0],.int .i64 1]) (by simp[results,Tryz.results31,go_sem,r0,r1,r2]<;>rfl) rfl ⟨.slice none 0 0,.slice none 0 0,.slice none 0 0,by first|rfl|rw[HDI.out],?_,?_,?_⟩
  ·rw[HKN.out];exact Qo _ _
  ·rw[HKN.out];show SlA _ _ 3 SpE (.slice none 0 0) ([]:List Sp)
   exact SlA.nil
  ·first|with_reducible exact HBX.out|exact ((HBX.out.setCell (p:=⟨w.heap.size,0,none⟩) (by simp) _).setCell (p:=⟨w.heap.size,1,none⟩) (by simp) _).setCell (p:=⟨w.heap.size,2,none⟩) (by simp) _
 have hE:delI G ops dc fr=0:=(if_neg h0).trans ((if_neg (by rw[HR.out];simp;omega)).trans (if_neg (by rw[hsd];simp)))
 have hmj:¬(0:Int)<(M.length:Int):=fun hh=>by have h:=HML.out.1 (by rw[HM.out];omega);rw[hsd]at h;cases h
 have hmk:decide ((0:Int)<(M.length:Int))=false:=decide_eq_false hmj
 have hmn:¬0<M.length:=by omega
 have hmd:decide (0<M.length)=false:=decide_eq_false hmn
 have HDI:=hid hE
 have HKN:=hid (qUr hE)
 have HD:=hid (HF.out hE)
 clear hE hsd HML HAP HSN HR HR0 HF
 obtain⟨hB3,hs3,_,d0,d1,d2,d6,rr3,rs3⟩:=HX.out _ HB3.out
 have hgl3:g<w3.heap.size:=by omega
 have hne3:g≠w3.heap.size:=by omega
 have hne4:g≠w3.heap.size+1:=by omega
 have hne5:w3.heap.size+1≠g:=by omega
 have hne6:w3.heap.size≠g:=by omega
 have HB3W:=hid hB3
 have HRR3:=hid (qXw G.1 _ _ |>.1 rr3)
 have HRS3:=hid (Zk.1 rs3)
 clear hB3 rr3 rs3
 go_wp2_with fail
 go_loopw [82] (fun i wr=>∃ k:Nat,k<=ops.length/\i=.int .i64 k/\DelL w3.heap.size wr (chS (nmD dc fr) G (ops.take k))/\Below w3.heap.size w3 wr) (fun i _=>ops.length-(intOf i).toNat)
 case atStart=>
  have e0:chS (nmD dc fr) G (ops.take 0)=(0,G,kn0):=rfl
  have k1:Keeps (fun b=>b<w3.heap.size) w3 ((w3.alloc (.cells #[.slice Ag G.1.es.length ng,.slice Bg G.1.ks.length mg,.slice Cg G.2.length kg] 29)).alloc (.cells #[.slice none 0 0,.slice none 0 0,.slice none 0 0] 29)):=fun b hb=>(Qg (by simp;omega)).trans (Qg hb)
  have k2:∀ b,b<w3.heap.size->(b≠w3.heap.size/\b≠w3.heap.size+1/\b<((w3.alloc (.cells #[.slice Ag G.1.es.length ng,.slice Bg G.1.ks.length mg,.slice Cg G.2.length kg] 29)).alloc (.cells #[.slice none 0 0,.slice none 0 0,.slice none 0 0] 29)).heap.size):=fun b hb=>⟨by omega,by omega,by simp;omega⟩
  refine⟨0,Nat.zero_le _,rfl,?_,((Below.refl _ w3).alloc (Nat.le_refl _) _).alloc (by simp) _⟩
  rw[e0]
  exact⟨_,_,_,_,_,_,(Qg (by simp)).trans (Qd rfl),Qd (by simp),Qp k1 k2 _ _ _ HRR3.out,HRS3.out.up k1 k2 (fun _ _ _ h=>h),Qo _ _,SlA.nil⟩
 case round=>
  obtain⟨k,hk,rfl,hA,hb⟩:=hrel
  have HB:=hid hb
  have HA:=hid hA
  have hsr:=hb.size
  clear hA hb d0 d1 d2 d6
  obtain⟨_,_,_,d0,d1,d2,d6,_,_⟩:=HX.out _ (HB3.out.trans (HB.out.mono hs3))
  obtain⟨ne,nk,nc,oe,ok,oc,g1,g2,hN,hNC,hO,hOC⟩:=HA.out
  have hl1:=lt_of_block g1
  have hl2:=lt_of_block g2
  have HI:=hid (HD.out.inv k hk)
  obtain⟨⟨m0,⟨NT,NC⟩,⟨OT,OC⟩⟩,HS⟩:∃ S,Hid (chS (nmD dc fr) G (ops.take k)=S):=⟨_,rfl⟩
  rw[HS.out]at hN hNC hO hOC HI
  simp only at hN hNC hO hOC
  obtain⟨A1,n1,B1,m1,e1,e2⟩:=Qj hN
  subst e1;subst e2
  obtain⟨C1,c1,e3⟩:=hNC.shape
  subst e3
  obtain⟨A2,n2,B2,m2,e1,e2⟩:=Qj hO
  subst e1;subst e2
  obtain⟨C2,c2,e3⟩:=hOC.shape
  subst e3
  have q0:=Qa (i:=0) g1
  have q1:=Qa (i:=1) g1
  have q2:=Qa (i:=2) g1
  have p0:=Qa (i:=0) g2
  have p1:=Qa (i:=1) g2
  have p2:=Qa (i:=2) g2
  simp only[List.getElem?_toArray,List.getElem?_cons_zero,List.getElem?_cons_succ]at q0 q1 q2 p0 p1 p2
  have HN:=hid hN
  have HNC:=hid hNC
  have HO:=hid hO
  have HOC:=hid hOC
  have HG1:=hid g1
  have HG2:=hid g2
  have hm0:m0=k:=by
   have h:=Jo (nmD dc fr) G (ops.take k)
   rw[HS.out]at h
   simp at h;omega
  subst hm0
  have hz1:NT.sz<=100:=by have h:=HI.out.z1;simp only at h;omega
  have hz3:OT.sz<=100:=by have h:=HI.out.z2;simp only at h;omega
  have hz4:NC.length<=7000:=by have h:=HI.out.l1;simp only at h;omega
  have hz5:OC.length<=7000:=by have h:=HI.out.l2;simp only at h;omega
  clear g1 g2 hN hNC hO hOC
  by_cases hlt:m0<ops.length
  ·obtain⟨x,hx⟩:∃ x,ops[m0]?=some x:=⟨_,List.getElem?_eq_getElem hlt⟩
   obtain⟨b,off,A6,c6,rfl,hbB,hpx,hox,hu⟩:=OpL.at HOL.out hx
   have hbw:=HB3W.out.trans (HB.out.mono HB3W.out.size)
   have HBW:=hid hbw
   obtain⟨f0,f1,f2,f3⟩:=hu wr (hbw.block b hbB)
   have HPX:=hid (hpx.imp hbw (Nat.le_refl _) fun _ _ _ h=>h)
   have HOX:=hid hox
   have HAI:Hid (appI NT x (nmD dc fr m0)=0):=by
    have h:=HD.out.okn m0 x hx
    rw[HS.out]at h
    exact h
   have HTK:Hid (chS (nmD dc fr) G (ops.take (m0+1))=(m0+1,aftK (NT,NC) x (nmD dc fr m0),jn (OT,OC) (appT NT x (nmD dc fr m0),appC NT x (nmD dc fr m0)))):=by
    have h:=Y7 (nm:=nmD dc fr) (g:=G) hx
    rw[HS.out]at h
    exact h
   have HDO:Hid (Dt.Ok (nmD dc fr m0)):=by
    refine⟨hdc,?_⟩
    unfold nmD I64;simp only;omega
   have hnm:nmD dc fr m0=⟨dc,fr+(m0:Int)⟩:=rfl
   rw[hnm]at HAI HTK HDO
   have HAR:=hid (QM HAI.out)
   have HAL:=hid (Kq HAI.out)
   obtain⟨PT,HPT⟩:∃ q,Hid (appT NT x ⟨dc,fr+(m0:Int)⟩=q):=⟨_,rfl⟩
   obtain⟨PC,HPC⟩:∃ q,Hid (appC NT x ⟨dc,fr+(m0:Int)⟩=q):=⟨_,rfl⟩
   rw[HPT.out,HPC.out]at HTK
   have HKP:Hid (KOk (PT,PC)):=by have h:=HAR.out.1;rw[HPT.out,HPC.out]at h;exact h
   have hp1:PT.sz<=5:=by have h:=HAR.out.2;rw[HPT.out]at h;exact h
   have hp2:PC.length<=1000:=by have h:=HAL.out;rw[HPC.out]at h;omega
   have HJN:=hid (jn_ok HI.out.now HKP.out)
   have HJO:=hid (jn_ok HI.out.out HKP.out)
   obtain⟨⟨JT,JC⟩,HJ1⟩:∃ q,Hid (jn (NT,NC) (PT,PC)=q):=⟨_,rfl⟩
   obtain⟨⟨KT,KC⟩,HJ2⟩:∃ q,Hid (jn (OT,OC) (PT,PC)=q):=⟨_,rfl⟩
   have HTK2:Hid (chS (nmD dc fr) G (ops.take (m0+1))=(m0+1,(JT,JC),(KT,KC))):=by
    have h:=HTK.out
    unfold aftK at h
    rw[HPT.out,HPC.out,HJ1.out,HJ2.out]at h
    exact h
   have HN1:Hid (jnE NT PT NC PC=0):=HJN.out.1
   have HN2:Hid (jnT NT PT NC PC=JT):=HJN.out.2.1.trans (congrArg Prod.fst HJ1.out)
   have HN3:Hid (jnC NT PT NC PC=JC):=HJN.out.2.2.trans (congrArg Prod.snd HJ1.out)
   have HO1:Hid (jnE OT PT OC PC=0):=HJO.out.1
   have HO2:Hid (jnT OT PT OC PC=KT):=HJO.out.2.1.trans (congrArg Prod.fst HJ2.out)
   have HO3:Hid (jnC OT PT OC PC=KC):=HJO.out.2.2.trans (congrArg Prod.snd HJ2.out)
   have hw3:IntKind.i64.wrap (fr+(m0:Int))=fr+(m0:Int):=IntWalk.i64_in _ (by omega)
   have hm1:(m0:Int)<(ops.length:Int):=by omega
   have hb1:b≠wr.heap.size:=by omega
   have hb2:w3.heap.size≠wr.heap.size:=by omega
   have hb3:w3.heap.size+1≠wr.heap.size:=by omega
   have hb4:wr.heap.size≠w3.heap.size:=by omega
   have hb5:wr.heap.size≠w3.heap.size+1:=by omega
   have hb6:w3.heap.size≠w3.heap.size+1:=by omega
   have hb7:w3.heap.size+1≠w3.heap.size:=by omega
   have hbA:Below wr.heap.size wr (wr.alloc (.cells #[.slice A6 x.path.length c6,.int .i64 x.act,.string x.s,.int .i64 x.n] 65)):=(Below.refl _ wr).alloc (Nat.le_refl _) _
   have HRA:=hid (QQ HN.out (fun b hb=>hb.2.2) hbA)
   have HPA:Hid (SlP (wr.alloc (.cells #[.slice A6 x.path.length c6,.int .i64 x.act,.string x.s,.int .i64 x.n] 65)) (wr.alloc (.cells #[.slice A6 x.path.length c6,.int .i64 x.act,.string x.s,.int .i64 x.n] 65)).heap.size 1 StE (.slice A6 x.path.length c6) x.path):=hid (HPX.out.imp (hbA.mono hbw.size) (by have:=hbw.size;simp;omega) fun _ _ _ h=>h)
   have HBA:=hid hbA
   clear hu hpx hox hx hbw hbA hnm HAL HAR HJN HJO HS HTK
   go_wp2_with fail
   refine (Kz NT x ⟨dc,fr+(m0:Int)⟩ _ _ _ _ HRA.out HPA.out HOX.out HDO.out (by omega)).mono ?_
   rw[HPT.out,HPC.out,HAI.out]
   rintro e w5 ⟨ve5,vk5,vc5,rfl,hrd5,hsl5,hb5'⟩
   obtain⟨A5,n5,B5,m5,e1,e2⟩:=Qj hrd5
   subst e1;subst e2
   obtain⟨C5,c5,e3⟩:=hsl5.shape
   subst e3
   have HB5:=hid (HBA.out.trans (hb5'.mono (by simp)))
   have hs5:=HB5.out.size
   have HR5:=hid hrd5
   have HS5:=hid hsl5
   have HV5:Hid (w5.heap[w3.heap.size]?=some (.cells #[.slice A1 NT.es.length n1,.slice B1 NT.ks.length m1,.slice C1 NC.length c1] 29 (0,0))):=(HB5.out.block _ hl1).trans HG1.out
   have HW5:Hid (w5.heap[w3.heap.size+1]?=some (.cells #[.slice A2 OT.es.length n2,.slice B2 OT.ks.length m2,.slice C2 OC.length c2] 29 (0,0))):=(HB5.out.block _ hl2).trans HG2.out
   clear hb5' hrd5 hsl5 q0 q1 q2 p0 p1 p2 f0 f1 f2 f3 d0 d1 d2 d6
   obtain⟨q0,q1,q2⟩:=bx3 HV5.out
   have hc1:w3.heap.size≠w5.heap.size:=by omega
   have hc2:w5.heap.size≠w3.heap.size:=by omega
   have hc3:w3.heap.size+1≠w5.heap.size:=by omega
   have hc4:w5.heap.size≠w3.heap.size+1:=by omega
   have hl5:w3.heap.size+1<w5.heap.size:=by omega
   have hl5':w3.heap.size<w5.heap.size:=by omega
   have hbC:Below w5.heap.size w5 (w5.alloc (.cells #[.slice A5 PT.es.length n5,.slice B5 PT.ks.length m5,.slice C5 PC.length c5] 29)):=(Below.refl _ w5).alloc (Nat.le_refl _) _
   have HBC:=hid hbC
   have HN5:=hid (QQ HN.out (fun b hb=>hb.2.2) (HB5.out.trans (hbC.mono hs5)))
   have HNC5:=hid (HNC.out.slp (fun b hb=>hb.2.2) (HB5.out.trans (hbC.mono hs5)))
   have HR5A:=hid (QQ HR5.out (fun b hb=>hb.2) hbC)
   have HS5A:=hid (HS5.out.slp (fun b hb=>hb.2) hbC)
   clear hbC
   go_upto_region 18 with (fail)
   go_cut [103] (fun _ wx=>Below w3.heap.size w3 wx/\(∃ a1 a2 a3,wx.heap[w3.heap.size]?=some (.cells #[a1,a2,a3] 29 (0,0))/\JT.rda wx (fun b=>w5.heap.size<b/\b<wx.heap.size) a1 a2/\SlA wx (fun b=>w5.heap.size<b/\b<wx.heap.size) 3 SpE a3 JC)/\(∀ b,b≠w3.heap.size->b<w5.heap.size->wx.heap[b]?=w5.heap[b]?)/\wx.heap[w5.heap.size]?=some (.cells #[.slice A5 PT.es.length n5,.slice B5 PT.ks.length m5,.slice C5 PC.length c5] 29 (0,0))/\w5.heap.size<wx.heap.size)
   case first=>
    go_wp2_with fail
    refine (Kc NC PC NT PT _ _ _ _ _ _ _ HN5.out HR5A.out HNC5.out HS5A.out (by omega) (by omega) (by omega) (by omega)).mono ?_
    rw[HN1.out,HN2.out,HN3.out]
    rintro e w6 ⟨ve6,vk6,vc6,rfl,hrd6,hsl6,hb6'⟩
    obtain⟨A7,n7,B7,m7,e1,e2⟩:=Qj hrd6
    subst e1;subst e2
    obtain⟨C7,c7,e3⟩:=hsl6.shape
    subst e3
    have HB6:=hid (HBC.out.trans (hb6'.mono (by simp)))
    have hs6:=hb6'.size
    rw[World.size_alloc]at hs6
    have HR6:=hid hrd6
    have HS6:=hid hsl6
    have hg6:=(HB6.out.block _ (by omega)).trans HV5.out
    have HG6:=hid hg6
    have HP6:=hid ((hb6'.block w5.heap.size (by simp)).trans (Qd rfl))
    obtain⟨k0,k1,k2,z0,z1,z2⟩:=bz3 hg6
    clear q0 q1 q2 hg6 hb6' hrd6 hsl6
    go_wp2_with fail
    go_meet
    case rel=>
     obtain⟨r0,r1,r2,hK,hS⟩:=box3 HG6.out (.slice A7 JT.es.length n7) (.slice B7 JT.ks.length m7) (.slice C7 JC.length c7)
     have hW:=Qe (i:=2) (Qe (i:=1) (Qe (i:=0) HG6.out (.slice A7 JT.es.length n7)) (.slice B7 JT.ks.length m7)) (.slice C7 JC.length c7)
     have h6:∀ b,((w5.alloc (.cells #[.slice A5 PT.es.length n5,.slice B5 PT.ks.length m5,.slice C5 PC.length c5] 29)).heap.size<=b/\b<w6.heap.size)->b≠w3.heap.size:=fun b hb=>by have:=hb.1;rw[World.size_alloc]at this;omega
     refine⟨(((HB.out.trans ((HB5.out.trans (HB6.out.mono hs5)).mono hsr)).setCell (p:=⟨w3.heap.size,0,none⟩) (by simp) _).setCell (p:=⟨w3.heap.size,1,none⟩) (by simp) _).setCell (p:=⟨w3.heap.size,2,none⟩) (by simp) _,⟨_,_,_,hW,Qp (fun b hb=>hK b (h6 b hb)) (fun b hb=>?_) _ _ _ HR6.out,HS6.out.up (fun b hb=>hK b (h6 b hb)) (fun b hb=>?_) fun _ _ _ h=>h⟩,fun b hb hb'=>(hK b hb).trans (HB6.out.block b hb'),(hK _ (by omega)).trans HP6.out,by rw[hS];omega⟩
     ·have:=hb.1;rw[World.size_alloc]at this;exact⟨by omega,by rw[hS];exact hb.2⟩
     ·have:=hb.1;rw[World.size_alloc]at this;exact⟨by omega,by rw[hS];exact hb.2⟩
   case rest=>
    obtain⟨hB7,⟨a1,a2,a3,hJ,hJr,hJs⟩,hK7,hP7,hs7⟩:=hcut
    obtain⟨w7,hw7⟩:∃ z:World,z=wc:=⟨wc,rfl⟩
    subst hw7
    have HB7:=hid hB7
    have HJ7:=hid hJ
    have HJR7:=hid hJr
    have HJS7:=hid hJs
    have HK7:=hid hK7
    have HP7:=hid hP7
    clear hJ hJr hJs hK7 hP7 hB7 q0 q1 q2
    have hO7:=(HK7.out (w3.heap.size+1) (by omega) (by omega)).trans HW5.out
    have HO7:=hid hO7
    have q0:=Qa (i:=0) hO7
    have q1:=Qa (i:=1) hO7
    have q2:=Qa (i:=2) hO7
    have p0:=Qa (i:=0) HP7.out
    have p1:=Qa (i:=1) HP7.out
    have p2:=Qa (i:=2) HP7.out
    simp only[List.getElem?_toArray,List.getElem?_cons_zero,List.getElem?_cons_succ]at q0 q1 q2 p0 p1 p2
    have kO:Keeps (fun b=>w3.heap.size+2<=b/\b<wr.heap.size) wr w7:=fun b hb=>(HK7.out b (by have:=hb.1;omega) (by have:=hb.2;omega)).trans (HB5.out.block b hb.2)
    have HO7R:=hid (Qp (ok':=fun b=>b<w7.heap.size) kO (fun b hb=>(by have:=hb.2;omega)) _ _ _ HO.out)
    have HO7S:=hid (HOC.out.up (ok':=fun b=>b<w7.heap.size) kO (fun b hb=>(by have:=hb.2;omega)) fun _ _ _ h=>h)
    have h5s:(wr.alloc (.cells #[.slice A6 x.path.length c6,.int .i64 x.act,.string x.s,.int .i64 x.n] 65)).heap.size=wr.heap.size+1:=World.size_alloc _ _
    have kP:Keeps (fun b=>(wr.alloc (.cells #[.slice A6 x.path.length c6,.int .i64 x.act,.string x.s,.int .i64 x.n] 65)).heap.size<=b/\b<w5.heap.size) w5 w7:=fun b hb=>HK7.out b (by have:=hb.1;rw[h5s]at this;omega) hb.2
    have HP7R:=hid (Qp (ok':=fun b=>b<w7.heap.size) kP (fun b hb=>(by have:=hb.2;omega)) _ _ _ HR5.out)
    have HP7S:=hid (HS5.out.up (ok':=fun b=>b<w7.heap.size) kP (fun b hb=>(by have:=hb.2;omega)) fun _ _ _ h=>h)
    clear hO7 kO kP h5s
    go_wp2_with fail
    refine (Kc OC PC OT PT _ _ _ _ _ _ _ (QQ HO7R.out (fun _ h=>h) (Below.refl _ _)) (QQ HP7R.out (fun _ h=>h) (Below.refl _ _)) (HO7S.out.slp (fun _ h=>h) (Below.refl _ _)) (HP7S.out.slp (fun _ h=>h) (Below.refl _ _)) (by omega) (by omega) (by omega) (by omega)).mono ?_
    rw[HO1.out,HO2.out,HO3.out]
    rintro e w8 ⟨ve8,vk8,vc8,rfl,hrd8,hsl8,hb8⟩
    obtain⟨A8,n8,B8,m8,e1,e2⟩:=Qj hrd8
    subst e1;subst e2
    obtain⟨C8,c8,e3⟩:=hsl8.shape
    subst e3
    have HB8:=hid hb8
    have hs8:=hb8.size
    have HR8:=hid hrd8
    have HS8:=hid hsl8
    have hg8:=(hb8.block _ (by omega)).trans HO7.out
    have HG8:=hid hg8
    obtain⟨k0,k1,k2,z0,z1,z2⟩:=bz3 hg8
    clear q0 q1 q2 p0 p1 p2 hg8 hb8 hrd8 hsl8
    go_wp2_with fail
    obtain⟨r0,r1,r2,hK,hS⟩:=box3 HG8.out (.slice A8 KT.es.length n8) (.slice B8 KT.ks.length m8) (.slice C8 KC.length c8)
    have hW:=Qe (i:=2) (Qe (i:=1) (Qe (i:=0) HG8.out (.slice A8 KT.es.length n8)) (.slice B8 KT.ks.length m8)) (.slice C8 KC.length c8)
    have HK8:=hid hK
    have HS8':=hid hS
    have HW8:=hid hW
    clear r0 r1 r2 hK hS hW
    go_roundw
    case rel=>
     refine⟨m0+1,by omega,by go_num,?_,?_⟩
     ·rw[HTK2.out]
      refine⟨_,_,_,_,_,_,(HK8.out _ (by omega)).trans ((HB8.out.block _ (by omega)).trans HJ7.out),HW8.out,Qp (fun b hb=>?_) (fun b hb=>?_) _ _ _ HJR7.out,HJS7.out.up (fun b hb=>?_) (fun b hb=>?_) (fun _ _ _ h=>h),Qp (fun b hb=>HK8.out b ?_) (fun b hb=>?_) _ _ _ HR8.out,HS8.out.up (fun b hb=>HK8.out b ?_) (fun b hb=>?_) fun _ _ _ h=>h⟩
      ·exact (HK8.out b (by have:=hb.1;omega)).trans (HB8.out.block b hb.2)
      ·exact⟨by have:=hb.1;omega,by have:=hb.1;omega,by rw[HS8'.out];have:=hb.2;omega⟩
      ·exact (HK8.out b (by have:=hb.1;omega)).trans (HB8.out.block b hb.2)
      ·exact⟨by have:=hb.1;omega,by have:=hb.1;omega,by rw[HS8'.out];have:=hb.2;omega⟩
      ·have:=hb.1;omega
      ·exact⟨by have:=hb.1;omega,by rw[HS8'.out];exact hb.2⟩
      ·have:=hb.1;omega
      ·exact⟨by have:=hb.1;omega,by rw[HS8'.out];exact hb.2⟩
     ·exact (((HB7.out.trans (HB8.out.mono (by omega))).setCell (p:=⟨w3.heap.size+1,0,none⟩) (by simp) _).setCell (p:=⟨w3.heap.size+1,1,none⟩) (by simp) _).setCell (p:=⟨w3.heap.size+1,2,none⟩) (by simp) _
    case measure=>simp[intOf];omega
  ·have hke:m0=ops.length:=by omega
   have hm1:¬(m0:Int)<(ops.length:Int):=by omega
   have HOL':Hid (chS (nmD dc fr) G ops=(m0,(NT,NC),(OT,OC))):=by
    have h:=HS.out
    rw[List.take_of_length_le (by omega)]at h
    exact h
   obtain⟨hBx,hsx,hGx,_⟩:=HX.out _ (HB3.out.trans (HB.out.mono hs3))
   have HBX:=hid hBx
   have HGX:=hid hGx
   have hneR:w.heap.size≠w3.heap.size+1:=by omega
   obtain⟨k0,k1,k2,z0,z1,z2⟩:=bz3 hGx
   clear hBx hGx HS hke
   go_wp2_with fail
   obtain⟨r0,r1,r2,hK,hS⟩:=box3 HGX.out (.slice A2 OT.es.length n2) (.slice B2 OT.ks.length m2) (.slice C2 OC.length c2)
   refine bodyPost_ret (v:=.tuple #[.agg #[.slice A2 OT.es.length n2,.slice B2 OT.ks.length m2,.slice C2 OC.length c2],.int .i64 0]) (by simp[results,Tryz.results31,go_sem,r0,r1,r2]<;>rfl) rfl ⟨.slice A2 OT.es.length n2,.slice B2 OT.ks.length m2,.slice C2 OC.length c2,by first|rfl|rw[HDI.out],?_,?_,((HBX.out.setCell (p:=⟨w.heap.size,0,none⟩) (by simp) _).setCell (p:=⟨w.heap.size,1,none⟩) (by simp) _).setCell (p:=⟨w.heap.size,2,none⟩) (by simp) _⟩
   ·rw[HKN.out,HOL'.out]
    exact Qp (fun b hb=>hK b (by have:=hb.1;omega)) (fun b hb=>⟨by have:=hb.1;omega,by rw[hS];exact hb.2⟩) _ _ _ HO.out
   ·rw[HKN.out,HOL'.out]
    exact HOC.out.up (fun b hb=>hK b (by have:=hb.1;omega)) (fun b hb=>⟨by have:=hb.1;omega,by rw[hS];exact hb.2⟩) fun _ _ _ h=>h
theorem qXn {dc fr:Int}{n:Nat}(h0:0<n)(h1:n<=12):(fr<1∨1099511627776<fr∨Dt.right ⟨dc,fr+(n:Int)-1⟩=false)↔(Dt.right ⟨dc,fr⟩=false∨1099511627777-(n:Int)<fr):=by
 unfold Dt.right
 simp only[decide_eq_false_iff_not]
 omega
theorem qJi {G:Kn}{ops:List Opr}{dc fr:Int}(h0:ops.length≠0)(h1:ops.length<=12)(h:Dt.right ⟨dc,fr⟩=false∨1099511627777-(ops.length:Int)<fr):delI G ops dc fr=1:=
 (if_neg h0).trans (if_pos ((qXn (by omega) h1).2 h))
theorem zZm {G:Kn}{ops:List Opr}{dc fr:Int}(h0:ops.length≠0)(h1:ops.length<=12)(h:¬(Dt.right ⟨dc,fr⟩=false∨1099511627777-(ops.length:Int)<fr))(h2:someD G.2 dc fr ops.length=true):delI G ops dc fr=1:=
 (if_neg h0).trans ((if_neg (fun e=>h ((qXn (by omega) h1).1 e))).trans (if_pos h2))
theorem zYj {G:Kn}{ops:List Opr}{dc fr:Int}(h0:ops.length≠0)(h1:ops.length<=12)(h:¬(Dt.right ⟨dc,fr⟩=false∨1099511627777-(ops.length:Int)<fr))(h2:someD G.2 dc fr ops.length=false):delI G ops dc fr=0:=
 (if_neg h0).trans ((if_neg (fun e=>h ((qXn (by omega) h1).1 e))).trans (if_neg (by rw[h2];simp)))
theorem okw8 {w8:World}{n:Nat}(w7:World)(h:w7.heap.size<=n)(b:Nat)(hb:n<=b/\b<w8.heap.size):w7.heap.size<=b/\b<w8.heap.size:=⟨by omega,hb.2⟩
theorem zYk {B:Nat}{w7 w6:World}{x0 x1 x2 y0 y1 y2 a b c d e f:Value}{J K:Kn}{m:Nat}(hB:B+2<=w7.heap.size)(hb:Below w7.heap.size w7 w6)(g1:w7.heap[B]?=some (.cells #[x0,x1,x2] 29 (0,0)))(g2:w7.heap[B+1]?=some (.cells #[y0,y1,y2] 29 (0,0)))
  (h1:J.1.rda w6 (fun k=>w7.heap.size<=k/\k<w6.heap.size) a b) (h2:SlA w6 (fun k=>w7.heap.size<=k/\k<w6.heap.size) 3 SpE c J.2) (h3:K.1.rda w6 (fun k=>w7.heap.size<=k/\k<w6.heap.size) d e) (h4:SlA w6 (fun k=>w7.heap.size<=k/\k<w6.heap.size) 3 SpE f K.2) :
  DelL B ((((((w6.setCell ⟨B,0,none⟩ a).setCell ⟨B,1,none⟩ b).setCell ⟨B,2,none⟩ c).setCell ⟨B+1,0,none⟩ d).setCell ⟨B+1,1,none⟩ e).setCell ⟨B+1,2,none⟩ f) (m,J,K) /\
  (∀ k,k<B->((((((w6.setCell ⟨B,0,none⟩ a).setCell ⟨B,1,none⟩ b).setCell ⟨B,2,none⟩ c).setCell ⟨B+1,0,none⟩ d).setCell ⟨B+1,1,none⟩ e).setCell ⟨B+1,2,none⟩ f).heap[k]?=w7.heap[k]?) /\
  ((((((w6.setCell ⟨B,0,none⟩ a).setCell ⟨B,1,none⟩ b).setCell ⟨B,2,none⟩ c).setCell ⟨B+1,0,none⟩ d).setCell ⟨B+1,1,none⟩ e).setCell ⟨B+1,2,none⟩ f).heap.size=w6.heap.size:=by
 have g1':=(hb.block B (by omega)).trans g1
 have g2':=(hb.block (B+1) (by omega)).trans g2
 obtain⟨_,_,_,hK,hS⟩:=box3 g1' a b c
 have hW:=Qe (i:=2) (Qe (i:=1) (Qe (i:=0) g1' a) b) c
 have g3:=(hK (B+1) (by omega)).trans g2'
 obtain⟨_,_,_,hK2,hS2⟩:=box3 g3 d e f
 have hW2:=Qe (i:=2) (Qe (i:=1) (Qe (i:=0) g3 d) e) f
 have k:∀ q,w7.heap.size<=q/\q<w6.heap.size->((((((w6.setCell ⟨B,0,none⟩ a).setCell ⟨B,1,none⟩ b).setCell ⟨B,2,none⟩ c).setCell ⟨B+1,0,none⟩ d).setCell ⟨B+1,1,none⟩ e).setCell ⟨B+1,2,none⟩ f).heap[q]?=w6.heap[q]?:=fun q hq=>(hK2 q (by omega)).trans (hK q (by omega))
 have s:((((((w6.setCell ⟨B,0,none⟩ a).setCell ⟨B,1,none⟩ b).setCell ⟨B,2,none⟩ c).setCell ⟨B+1,0,none⟩ d).setCell ⟨B+1,1,none⟩ e).setCell ⟨B+1,2,none⟩ f).heap.size=w6.heap.size:=by rw[hS2,hS]
 refine⟨⟨a,b,c,d,e,f,(hK2 B (by omega)).trans (by simpa using hW),by simpa using hW2,Qp k (fun q hq=>⟨by omega,by omega,by rw[s];exact hq.2⟩) _ _ _ h1,h2.up k (fun q hq=>⟨by omega,by omega,by rw[s];exact hq.2⟩) (fun _ _ _ h=>h),Qp k (fun q hq=>⟨by omega,by rw[s];exact hq.2⟩) _ _ _ h3,h4.up k (fun q hq=>⟨by omega,by rw[s];exact hq.2⟩) fun _ _ _ h=>h⟩,fun q hq=>?_,s⟩
 exact (hK2 q (by omega)).trans ((hK q (by omega)).trans (hb.block q (by omega)))
theorem qZg {w:World}{G N:Kn}{ops:List Opr}(dc fr:Int)(ge gk gc vr ne nk nc:Value)(h:G.1.rd w w.heap.size ge gk)(hgc:SlP w w.heap.size 3 SpE gc G.2)(hn:N.1.rd w w.heap.size ne nk)(hnc:SlP w w.heap.size 3 SpE nc N.2)(hops:OpL w vr ops)
  (hG:KOk G) (hz:G.1.sz<=40) (hz2:G.2.length<=40) (hl:ops.length<=12) (hpl:∀ o∈ops,o.path.length<=1000) (hF:delI G ops dc fr=0->DelF G ops dc fr) (hdc:I64 dc) (_:I64 fr) :
  Calls Tryz.prog 32 #[.agg #[ge,gk,gc,vr,ne,nk,nc],.int .i64 dc,.int .i64 fr] w (RetCE w (delK G ops dc fr).1 (delK G ops dc fr).2 (delI G ops dc fr)):=by
 have HR0:=hid h
 have HS0:=hid hgc
 have HOL:=hid hops
 have HF:=hid hF
 have HGK:=hid hG
 have HPL:=hid hpl
 obtain⟨Ag,ng,Bg,mg,e1,e2⟩:=Qk h
 subst e1;subst e2
 obtain⟨Cg,kg,e3,_⟩:=hgc
 subst e3
 obtain⟨An,nn,Bn,mn,e1,e2⟩:=Qk hn
 subst e1;subst e2
 obtain⟨Cn,kn,e3,_⟩:=hnc
 subst e3
 obtain⟨Ao,no,e4,_⟩:=hops
 subst e4
 have HX:Hid (∀ W,Below (w.heap.size+2) ((w.alloc (.cells #[(.slice Ag G.1.es.length ng),(.slice Bg G.1.ks.length mg),(.slice Cg G.2.length kg),(.slice Ao ops.length no),(.slice An N.1.es.length nn),(.slice Bn N.1.ks.length mn),(.slice Cn N.2.length kn)] 51)).alloc (.cells #[.slice none 0 0,.slice none 0 0,.slice none 0 0] 29)) W->(Below w.heap.size w W/\w.heap.size+2<=W.heap.size/\W.heap[w.heap.size+1]?=some (.cells #[.slice none 0 0,.slice none 0 0,.slice none 0 0] 29 (0,0))/\W.cell? ⟨w.heap.size,0,none⟩=some (.slice Ag G.1.es.length ng)/\W.cell? ⟨w.heap.size,1,none⟩=some (.slice Bg G.1.ks.length mg)/\W.cell? ⟨w.heap.size,2,none⟩=some (.slice Cg G.2.length kg)/\W.cell? ⟨w.heap.size,3,none⟩=some (.slice Ao ops.length no)/\SlP W W.heap.size 3 SpE (.slice Cg G.2.length kg) G.2)):=fun W hW=>by
  have g0:W.heap[w.heap.size]?=some (.cells #[(.slice Ag G.1.es.length ng),(.slice Bg G.1.ks.length mg),(.slice Cg G.2.length kg),(.slice Ao ops.length no),(.slice An N.1.es.length nn),(.slice Bn N.1.ks.length mn),(.slice Cn N.2.length kn)] 51 (0,0)):=(hW.block _ (by omega)).trans ((Qg (by simp)).trans (Qd rfl))
  have hB:Below w.heap.size w W:=(((Below.refl _ w).alloc (Nat.le_refl _) _).alloc (by simp) _).trans (hW.mono (by omega))
  exact⟨hB,by have:=hW.size;simpa using this,(hW.block _ (by omega)).trans (Qd (by simp)),Qa (i:=0) g0,Qa (i:=1) g0,Qa (i:=2) g0,Qa (i:=3) g0,HS0.out.imp hB hB.size fun _ _ _ h=>h⟩
 clear h hG hF hn hpl
 have hn1:w.heap.size+1≠w.heap.size:=by omega
 have hn2:w.heap.size≠w.heap.size+1:=by omega
 go_enter Tryz.func32,Tryz.ntmps32
 by_cases h0:ops.length=0
 ·have hE:delI G ops dc fr=7:=if_pos h0
  have h0i:((ops.length:Int)==0)=true:=by simp[h0]
  have h0j:decide ((ops.length:Int)=0)=true:=by simp[h0]
  clear h0
  have HDI:=hid hE
  have HKN:=hid (ZM (by rw[HDI.out];decide))
  clear hE
  obtain⟨hBx,hsx,hGx,d0,d1,d2,d3,_⟩:=HX.out _ (Below.refl _ _)
  have HBX:=hid hBx
  have HGX:=hid hGx
  obtain⟨k0,k1,k2,z0,z1,z2⟩:=bz3 hGx
  clear hBx hGx
  go_wp2_with fail
  obtain⟨r0,r1,r2,_⟩:=box3 HGX.out (.slice none 0 0) (.slice none 0 0) (.slice none 0 0)
  refine bodyPost_ret (v:=.tuple #[.agg #[.slice none 0 0,.slice none 0 0,.slice none 0 0],.int .i64 7]) (by simp[results,Tryz.results32,go_sem,r0,r1,r2]<;>rfl) rfl ⟨.slice none 0 0,.slice none 0 0,.slice none 0 0,by first|rfl|rw[HDI.out],?_,?_,?_⟩
  ·rw[HKN.out];exact Qo _ _
  ·rw[HKN.out];show SlA _ _ 3 SpE (.slice none 0 0) ([]:List Sp)
   exact SlA.nil
  ·first|with_reducible exact HBX.out|exact ((HBX.out.setCell (p:=⟨w.heap.size+1,0,none⟩) (by simp) _).setCell (p:=⟨w.heap.size+1,1,none⟩) (by simp) _).setCell (p:=⟨w.heap.size+1,2,none⟩) (by simp) _
 have h0i:((ops.length:Int)==0)=false:=by simpa using h0
 have h0j:decide ((ops.length:Int)=0)=false:=by simpa using h0
 obtain⟨R,HR⟩:∃ q,Hid (Dt.right ⟨dc,fr⟩=q):=⟨_,rfl⟩
 have hw1:IntKind.i64.wrap (1099511627776-(ops.length:Int))=1099511627776-(ops.length:Int):=IntWalk.i64_in _ (by omega)
 have hw2:IntKind.i64.wrap (1099511627776-(ops.length:Int)+1)=1099511627776-(ops.length:Int)+1:=IntWalk.i64_in _ (by omega)
 obtain⟨_,hs0,_,d0,d1,d2,d3,_⟩:=HX.out _ (Below.refl _ _)
 go_wp2_with fail
 refine (Q8 ⟨dc,fr⟩ _).mono ?_
 rw[HR.out]
 rintro e w1 ⟨rfl,hb1⟩
 have HB1:=hid (hb1.mono (show w.heap.size+2<=_ by simp))
 clear hb1 d0 d1 d2 d3 hs0
 cases R
 ·have hE:delI G ops dc fr=1:=qJi h0 hl (.inl HR.out)
  have HDI:=hid hE
  have HKN:=hid (ZM (by rw[HDI.out];decide))
  clear hE
  obtain⟨hBx,hsx,hGx,d0,d1,d2,d3,_⟩:=HX.out _ HB1.out
  have HBX:=hid hBx
  have HGX:=hid hGx
  obtain⟨k0,k1,k2,z0,z1,z2⟩:=bz3 hGx
  clear hBx hGx
  go_wp2_with fail
  obtain⟨r0,r1,r2,_⟩:=box3 HGX.out (.slice none 0 0) (.slice none 0 0) (.slice none 0 0)
  refine bodyPost_ret (v:=.tuple #[.agg #[.slice none 0 0,.slice none 0 0,.slice none 0 0],.int .i64 1]) (by simp[results,Tryz.results32,go_sem,r0,r1,r2]<;>rfl) rfl ⟨.slice none 0 0,.slice none 0 0,.slice none 0 0,by first|rfl|rw[HDI.out],?_,?_,?_⟩
  ·rw[HKN.out];exact Qo _ _
  ·rw[HKN.out];show SlA _ _ 3 SpE (.slice none 0 0) ([]:List Sp)
   exact SlA.nil
  ·first|with_reducible exact HBX.out|exact ((HBX.out.setCell (p:=⟨w.heap.size+1,0,none⟩) (by simp) _).setCell (p:=⟨w.heap.size+1,1,none⟩) (by simp) _).setCell (p:=⟨w.heap.size+1,2,none⟩) (by simp) _
 by_cases h2:1099511627776-(ops.length:Int)+1<fr
 ·have hE:delI G ops dc fr=1:=qJi h0 hl (.inr (by omega))
  have h2j:decide (1099511627776-(ops.length:Int)+1<fr)=true:=decide_eq_true h2
  have HDI:=hid hE
  have HKN:=hid (ZM (by rw[HDI.out];decide))
  clear hE
  obtain⟨hBx,hsx,hGx,d0,d1,d2,d3,_⟩:=HX.out _ HB1.out
  have HBX:=hid hBx
  have HGX:=hid hGx
  obtain⟨k0,k1,k2,z0,z1,z2⟩:=bz3 hGx
  clear hBx hGx
  go_wp2_with fail
  obtain⟨r0,r1,r2,_⟩:=box3 HGX.out (.slice none 0 0) (.slice none 0 0) (.slice none 0 0)
  refine bodyPost_ret (v:=.tuple #[.agg #[.slice none 0 0,.slice none 0 0,.slice none 0 0],.int .i64 1]) (by simp[results,Tryz.results32,go_sem,r0,r1,r2]<;>rfl) rfl ⟨.slice none 0 0,.slice none 0 0,.slice none 0 0,by first|rfl|rw[HDI.out],?_,?_,?_⟩
  ·rw[HKN.out];exact Qo _ _
  ·rw[HKN.out];show SlA _ _ 3 SpE (.slice none 0 0) ([]:List Sp)
   exact SlA.nil
  ·first|with_reducible exact HBX.out|exact ((HBX.out.setCell (p:=⟨w.heap.size+1,0,none⟩) (by simp) _).setCell (p:=⟨w.heap.size+1,1,none⟩) (by simp) _).setCell (p:=⟨w.heap.size+1,2,none⟩) (by simp) _
 have h2j:decide (1099511627776-(ops.length:Int)+1<fr)=false:=decide_eq_false h2
 have HNE:Hid (¬(Dt.right ⟨dc,fr⟩=false∨1099511627777-(ops.length:Int)<fr)):=by
  unfold Hid;rw[HR.out];simp;omega
 have hfr1:1<=fr:=by
  have h:=HR.out
  unfold Dt.right at h
  rw[decide_eq_true_eq]at h
  simp only at h;omega
 obtain⟨_,hs1,_,d0,d1,d2,d3,_⟩:=HX.out _ HB1.out
 go_wp2_with fail
 go_loopw [35] (fun i wr=>∃ k:Nat,k<=ops.length/\i=.int .i64 k/\Hid (∀ j,j<k->hasC G.2 (nmD dc fr j)=false)/\Below (w.heap.size+2) ((w.alloc (.cells #[(.slice Ag G.1.es.length ng),(.slice Bg G.1.ks.length mg),(.slice Cg G.2.length kg),(.slice Ao ops.length no),(.slice An N.1.es.length nn),(.slice Bn N.1.ks.length mn),(.slice Cn N.2.length kn)] 51)).alloc (.cells #[.slice none 0 0,.slice none 0 0,.slice none 0 0] 29)) wr) (fun i _=>ops.length-(intOf i).toNat)
 case atStart=>exact⟨0,by omega,rfl,fun j hj=>absurd hj (Nat.not_lt_zero _),HB1.out⟩
 case round=>
  obtain⟨k,hk,rfl,hno,hb⟩:=hrel
  have HB:=hid hb
  clear hb d0 d1 d2 d3
  obtain⟨_,hsr,_,d0,d1,d2,d3,rs⟩:=HX.out _ HB.out
  by_cases hlt:k<ops.length
  ·have hkk:(k:Int)<(ops.length:Int):=by omega
   have hwr:IntKind.i64.wrap (fr+(k:Int))=fr+(k:Int):=IntWalk.i64_in _ (by omega)
   go_wp2_with fail
   refine (Zr G.2 ⟨dc,fr+(k:Int)⟩ _ _ rs (by omega)).mono ?_
   cases hh:hasC G.2 ⟨dc,fr+(k:Int)⟩
   ·rintro e w2 ⟨rfl,hb2⟩
    have HN2:Hid (∀ j,j<k+1->hasC G.2 (nmD dc fr j)=false):=fun j hj=>by
     rcases (show j<k∨j=k by omega) with h|rfl
     ·exact hno.out j h
     ·exact hh
    have HB2:=hid (HB.out.trans (hb2.mono hsr))
    clear hh hb2 rs d0 d1 d2 d3
    go_wp2_with fail
    go_roundw
    case rel=>exact⟨k+1,by omega,by go_num,HN2,HB2.out⟩
    case measure=>simp[intOf];omega
   ·rintro e w2 ⟨rfl,hb2⟩
    have hE:delI G ops dc fr=1:=zZm h0 hl HNE.out (Yd.2 ⟨k,hlt,hh⟩)
    have HB2:=hid (HB.out.trans (hb2.mono hsr))
    clear hh hb2 rs d0 d1 d2 d3
    have HDI:=hid hE
    have HKN:=hid (ZM (by rw[HDI.out];decide))
    clear hE
    obtain⟨hBx,hsx,hGx,d0,d1,d2,d3,_⟩:=HX.out _ HB2.out
    have HBX:=hid hBx
    have HGX:=hid hGx
    obtain⟨k0,k1,k2,z0,z1,z2⟩:=bz3 hGx
    clear hBx hGx
    go_wp2_with fail
    obtain⟨r0,r1,r2,_⟩:=box3 HGX.out (.slice none 0 0) (.slice none 0 0) (.slice none 0 0)
    refine bodyPost_ret (v:=.tuple #[.agg #[.slice none 0 0,.slice none 0 0,.slice none 0 0],.int .i64 1]) (by simp[results,Tryz.results32,go_sem,r0,r1,r2]<;>rfl) rfl ⟨.slice none 0 0,.slice none 0 0,.slice none 0 0,by first|rfl|rw[HDI.out],?_,?_,?_⟩
    ·rw[HKN.out];exact Qo _ _
    ·rw[HKN.out];show SlA _ _ 3 SpE (.slice none 0 0) ([]:List Sp)
     exact SlA.nil
    ·first|with_reducible exact HBX.out|exact ((HBX.out.setCell (p:=⟨w.heap.size+1,0,none⟩) (by simp) _).setCell (p:=⟨w.heap.size+1,1,none⟩) (by simp) _).setCell (p:=⟨w.heap.size+1,2,none⟩) (by simp) _
  have hkk:¬(k:Int)<(ops.length:Int):=by omega
  have hsd:someD G.2 dc fr ops.length=false:=by
   rw[Bool.eq_false_iff]
   intro h
   obtain⟨j,hj,hh⟩:=Yd.1 h
   have:=hno.out j (by omega)
   unfold nmD at this
   rw[this]at hh;cases hh
  have hE:delI G ops dc fr=0:=zYj h0 hl HNE.out hsd
  have HDI:=hid hE
  have HKN:=hid (qUr hE)
  have HD:=hid (HF.out hE)
  clear hE hsd rs hno
  obtain⟨hBr,_⟩:=HX.out _ HB.out
  have HBW:=hid hBr
  have HRRd:=hid (qXw G.1 _ _ |>.1 (Qi hBr hBr.size _ _ _ HR0.out))
  have HRSl:=hid (Zk.1 (HS0.out.imp hBr hBr.size fun _ _ _ h=>h))
  clear hBr
  have hq1:w.heap.size≠wr.heap.size:=by omega
  have hq2:wr.heap.size≠w.heap.size:=by omega
  have hq3:w.heap.size≠wr.heap.size+1:=by omega
  have hq4:wr.heap.size+1≠w.heap.size:=by omega
  have hq5:w.heap.size<wr.heap.size:=by omega
  obtain⟨wo,rfl⟩:∃ wo:World,wo=wr:=⟨_,rfl⟩
  go_wp2_with fail
  go_loopw [54] (fun i wr=>∃ k:Nat,k<=ops.length/\i=.int .i64 k/\DelL wo.heap.size wr (chS (nmD dc fr) G (ops.take k))/\Below wo.heap.size wo wr) (fun i _=>ops.length-(intOf i).toNat)
  case atStart=>
   have e0:chS (nmD dc fr) G (ops.take 0)=(0,G,kn0):=rfl
   have k1:Keeps (fun b=>b<wo.heap.size) wo ((wo.alloc (.cells #[(.slice Ag G.1.es.length ng),(.slice Bg G.1.ks.length mg),(.slice Cg G.2.length kg)] 29)).alloc (.cells #[.slice none 0 0,.slice none 0 0,.slice none 0 0] 29)):=fun b hb=>(Qg (by simp;omega)).trans (Qg hb)
   have k2:∀ b,b<wo.heap.size->(b≠wo.heap.size/\b≠wo.heap.size+1/\b<((wo.alloc (.cells #[(.slice Ag G.1.es.length ng),(.slice Bg G.1.ks.length mg),(.slice Cg G.2.length kg)] 29)).alloc (.cells #[.slice none 0 0,.slice none 0 0,.slice none 0 0] 29)).heap.size):=fun b hb=>⟨by omega,by omega,by simp;omega⟩
   refine⟨0,Nat.zero_le _,rfl,?_,((Below.refl _ wo).alloc (Nat.le_refl _) _).alloc (by simp) _⟩
   rw[e0]
   exact⟨_,_,_,_,_,_,(Qg (by simp)).trans (Qd rfl),Qd (by simp),Qp k1 k2 _ _ _ HRRd.out,HRSl.out.up k1 k2 (fun _ _ _ h=>h),Qo _ _,SlA.nil⟩
  case round=>
   obtain⟨m0,hk,rfl,hA,hb⟩:=hrel
   have HBr:=hid hb
   have HA:=hid hA
   have hsr':=hb.size
   clear hA hb d0 d1 d2 d3
   have hBX:=HB.out.trans (HBr.out.mono hsr)
   have HBX2:=hid hBX
   obtain⟨_,_,_,d0,d1,d2,d3,_⟩:=HX.out _ hBX
   obtain⟨ne,nk,nc,oe,ok,oc,g1,g2,hN,hNC,hO,hOC⟩:=HA.out
   have hl1:=lt_of_block g1
   have hl2:=lt_of_block g2
   have HI:=hid (HD.out.inv m0 hk)
   obtain⟨⟨m1,⟨NT,NC⟩,⟨OT,OC⟩⟩,HS⟩:∃ S,Hid (chS (nmD dc fr) G (ops.take m0)=S):=⟨_,rfl⟩
   rw[HS.out]at hN hNC hO hOC HI
   simp only at hN hNC hO hOC
   obtain⟨A1,n1,B1,r1,e1,e2⟩:=Qj hN
   subst e1;subst e2
   obtain⟨C1,c1,e3⟩:=hNC.shape
   subst e3
   obtain⟨A2,n2,B2,r2,e1,e2⟩:=Qj hO
   subst e1;subst e2
   obtain⟨C2,c2,e3⟩:=hOC.shape
   subst e3
   have q0:=Qa (i:=0) g1
   have q1:=Qa (i:=1) g1
   have p0:=Qa (i:=0) g2
   have p1:=Qa (i:=1) g2
   have p2:=Qa (i:=2) g2
   simp only[List.getElem?_toArray,List.getElem?_cons_zero,List.getElem?_cons_succ]at q0 q1 p0 p1 p2
   have HN:=hid hN
   have HNC:=hid hNC
   have HO:=hid hO
   have HOC:=hid hOC
   have HG1:=hid g1
   have HG2:=hid g2
   have hm0:m1=m0:=by
    have h:=Jo (nmD dc fr) G (ops.take m0)
    rw[HS.out]at h
    simp at h;omega
   subst hm0
   have hz1:NT.sz<=100:=by have h:=HI.out.z1;simp only at h;omega
   have hz3:OT.sz<=100:=by have h:=HI.out.z2;simp only at h;omega
   have hz4:NC.length<=7000:=by have h:=HI.out.l1;simp only at h;omega
   have hz5:OC.length<=7000:=by have h:=HI.out.l2;simp only at h;omega
   clear g1 g2 hN hNC hO hOC hBX
   by_cases hlt:m1<ops.length
   ·obtain⟨x,hx⟩:∃ x,ops[m1]?=some x:=⟨_,List.getElem?_eq_getElem hlt⟩
    obtain⟨b,off,A6,c6,rfl,hbB,hpx,hox,hu⟩:=OpL.at HOL.out hx
    have hbw:=HBW.out.trans (HBr.out.mono HBW.out.size)
    have HBWr:=hid hbw
    obtain⟨f0,f1,f2,f3⟩:=hu wr (hbw.block b hbB)
    have HU:=hid hu
    have HPX:=hid hpx
    have HOX:=hid hox
    have hpl:x.path.length<=1000:=HPL.out x (List.mem_of_getElem? hx)
    have HAI:Hid (appI NT x (nmD dc fr m1)=0):=by
     have h:=HD.out.okn m1 x hx
     rw[HS.out]at h
     exact h
    have HTK:Hid (chS (nmD dc fr) G (ops.take (m1+1))=(m1+1,aftK (NT,NC) x (nmD dc fr m1),jn (OT,OC) (appT NT x (nmD dc fr m1),appC NT x (nmD dc fr m1)))):=by
     have h:=Y7 (nm:=nmD dc fr) (g:=G) hx
     rw[HS.out]at h
     exact h
    have HDO:Hid (Dt.Ok (nmD dc fr m1)):=by
     refine⟨hdc,?_⟩
     unfold nmD I64;simp only;omega
    have hnm:nmD dc fr m1=⟨dc,fr+(m1:Int)⟩:=rfl
    rw[hnm]at HAI HTK HDO
    have HAR:=hid (QM HAI.out)
    have HAL:=hid (Kq HAI.out)
    obtain⟨PT,HPT⟩:∃ q,Hid (appT NT x ⟨dc,fr+(m1:Int)⟩=q):=⟨_,rfl⟩
    obtain⟨PC,HPC⟩:∃ q,Hid (appC NT x ⟨dc,fr+(m1:Int)⟩=q):=⟨_,rfl⟩
    rw[HPT.out,HPC.out]at HTK
    have HKP:Hid (KOk (PT,PC)):=by have h:=HAR.out.1;rw[HPT.out,HPC.out]at h;exact h
    have hp1:PT.sz<=5:=by have h:=HAR.out.2;rw[HPT.out]at h;exact h
    have hp2:PC.length<=1000:=by have h:=HAL.out;rw[HPC.out]at h;omega
    obtain⟨⟨JT,JC⟩,HJ1⟩:∃ q,Hid (jn (NT,NC) (PT,PC)=q):=⟨_,rfl⟩
    obtain⟨⟨KT,KC⟩,HJ2⟩:∃ q,Hid (jn (OT,OC) (PT,PC)=q):=⟨_,rfl⟩
    have HTK2:Hid (chS (nmD dc fr) G (ops.take (m1+1))=(m1+1,(JT,JC),(KT,KC))):=by
     have h:=HTK.out
     unfold aftK at h
     rw[HPT.out,HPC.out,HJ1.out,HJ2.out]at h
     exact h
    have HN1:Hid (Qz (r9L (NT.lvs []) (PT.lvs []) NC PC)=JT):=(r9_jn HI.out.now HKP.out).trans (congrArg Prod.fst HJ1.out)
    have HN2:Hid (ctxBy NC PC 0=JC):=congrArg Prod.snd HJ1.out
    have HO1:Hid (Qz (r9L (OT.lvs []) (PT.lvs []) OC PC)=KT):=(r9_jn HI.out.out HKP.out).trans (congrArg Prod.fst HJ2.out)
    have HO2:Hid (ctxBy OC PC 0=KC):=congrArg Prod.snd HJ2.out
    have HP1:=hid (Zv HI.out.now.ap)
    have HP2:=hid (Zv HI.out.out.ap)
    have HP3:=hid (Zv HKP.out.ap)
    have hw3:IntKind.i64.wrap (fr+(m1:Int))=fr+(m1:Int):=IntWalk.i64_in _ (by omega)
    have hm1:(m1:Int)<(ops.length:Int):=by omega
    have hb1:b≠wr.heap.size:=by omega
    have hb1':wr.heap.size≠b:=by omega
    have hb2:wo.heap.size≠wr.heap.size:=by omega
    have hb2l:wo.heap.size<wr.heap.size:=by omega
    have hb5l:w.heap.size<wr.heap.size:=by omega
    have hbl:b<wr.heap.size:=by omega
    have hb4:wr.heap.size≠wo.heap.size:=by omega
    have hb5:w.heap.size≠wr.heap.size:=by omega
    have hb6:wr.heap.size≠w.heap.size:=by omega
    have HKK:Hid (∀ W,Below wr.heap.size wr W->(W.cell? ⟨wo.heap.size,0,none⟩=some (.slice A1 NT.es.length n1)/\W.cell? ⟨wo.heap.size,1,none⟩=some (.slice B1 NT.ks.length r1)/\W.cell? ⟨w.heap.size,3,none⟩=some (.slice (some ⟨b,off,none⟩) ops.length no)/\W.cell? ⟨b,off+m1*4,none⟩=some (.slice A6 x.path.length c6)/\W.cell? ⟨b,off+m1*4+1,none⟩=some (.int .i64 x.act)/\W.cell? ⟨b,off+m1*4+2,none⟩=some (.string x.s)/\W.cell? ⟨b,off+m1*4+3,none⟩=some (.int .i64 x.n))):=fun W hW=>by
     have g:=(hW.block wo.heap.size (by omega)).trans HG1.out
     obtain⟨_,_,_,_,_,_,y3,_⟩:=HX.out W (HBX2.out.trans (hW.mono (by omega)))
     exact⟨Qa (i:=0) g,Qa (i:=1) g,y3,HU.out W ((hW.block b (by omega)).trans (HBWr.out.block b hbB))⟩
    have HRW:Hid (∀ W,Below wr.heap.size wr W->(NT.rd W W.heap.size (.slice A1 NT.es.length n1) (.slice B1 NT.ks.length r1)/\SlP W W.heap.size 1 StE (.slice A6 x.path.length c6) x.path)):=fun W hW=>
     ⟨QQ HN.out (fun _ hb=>hb.2.2) hW,HPX.out.imp (HBWr.out.trans (hW.mono HBWr.out.size)) (by have:=HBWr.out.size;have:=hW.size;omega) fun _ _ _ h=>h⟩
    clear hu hpx hox hx hbw hnm HAR HAL HTK HS
    go_upto_region 17 with (fail)
    go_cut [13,14] (fun s13 s14 wx=>s14=.int .i64 0/\BoxG wr.heap.size wr 29 PT PC s13 wx)
    case first=>
     go_region_held3 (fun W=>W.cell? ⟨wo.heap.size,0,none⟩=some (.slice A1 NT.es.length n1)/\W.cell? ⟨wo.heap.size,1,none⟩=some (.slice B1 NT.ks.length r1)/\W.cell? ⟨w.heap.size,3,none⟩=some (.slice (some ⟨b,off,none⟩) ops.length no)/\W.cell? ⟨b,off+m1*4,none⟩=some (.slice A6 x.path.length c6)/\W.cell? ⟨b,off+m1*4+1,none⟩=some (.int .i64 x.act)/\W.cell? ⟨b,off+m1*4+2,none⟩=some (.string x.s)/\W.cell? ⟨b,off+m1*4+3,none⟩=some (.int .i64 x.n))
      (first|with_reducible exact HKK.out _ hbr4.out|with_reducible exact HKK.out _ (hbr4.out.alloc hsr4 _)|with_reducible exact HKK.out _ (((hbr4.out.setCell (Nat.le_refl _) _).setCell (Nat.le_refl _) _).setCell (Nat.le_refl _) _)|go_keep|exact HKK.out _ (hbr4.out.trans (by go_grown))|exact HKK.out _ (((hbr4.out.setCell (by first|(simp;done)|(simp;omega)) _).setCell (by first|(simp;done)|(simp;omega)) _).setCell (by first|(simp;done)|(simp;omega)) _)|exact HKK.out _ (by go_grown)|fail)
      (first
       |(go_at_call 62;go_loud ((refine (Jx NT x ⟨dc,fr+(m1:Int)⟩ _ _ _ _ (HRW.out _ (by go_grown)).1 (HRW.out _ (by go_grown)).2 HOX.out HDO.out hpl (by omega)).mono ?_);rw[HPT.out,HPC.out,HAI.out];rintro e w4 ⟨xe4,xk4,xc4,rfl,hrd4,hsl4,hb⟩;have hbr4:Hid (Below wr.heap.size wr w4):=hid (Below.trans (by go_grown) (hb.mono (by first|omega|(simp;done)|(simp;omega))));have hsr4:=hbr4.out.size;obtain⟨Ar4,nr4,Br4,mr4,hv1,hv2⟩:=Qj hrd4;subst hv1;subst hv2;obtain⟨Dr4,kr4,hv3⟩:=hsl4.shape;subst hv3;have HR4:=hid hrd4;have HL4:=hid hsl4;clear hrd4 hsl4;(first|(have HG4:Hid (w4.heap[wr.heap.size]?=some (.cells #[.slice none 0 0,.slice none 0 0,.slice none 0 0] 29 (0,0))):=hid (Kp hb);have k0:w4.cell? ⟨wr.heap.size,0,none⟩=some (.slice none 0 0):=Qa (i:=0) HG4.out;have k1:w4.cell? ⟨wr.heap.size,1,none⟩=some (.slice none 0 0):=Qa (i:=1) HG4.out;have k2:w4.cell? ⟨wr.heap.size,2,none⟩=some (.slice none 0 0):=Qa (i:=2) HG4.out;have z0:=Qb (i:=0) HG4.out;have z1:=Qb (i:=1) HG4.out;have z2:=Qb (i:=2) HG4.out)|(have HG4:Hid (w4.heap[wr.heap.size]?=some (.cells #[.slice none 0 0,.slice none 0 0,.slice none 0 0] 29 (0,0))):=hid (z_new hb);have k0:w4.cell? ⟨wr.heap.size,0,none⟩=some (.slice none 0 0):=Qa (i:=0) HG4.out;have k1:w4.cell? ⟨wr.heap.size,1,none⟩=some (.slice none 0 0):=Qa (i:=1) HG4.out;have k2:w4.cell? ⟨wr.heap.size,2,none⟩=some (.slice none 0 0):=Qa (i:=2) HG4.out;have z0:=Qb (i:=0) HG4.out;have z1:=Qb (i:=1) HG4.out;have z2:=Qb (i:=2) HG4.out)|skip);clear hb)))
     all_goals
      go_wp2_with fail
      go_meet
      case rel=>exact⟨rfl,(by first|exact XY hbr4.out hsr4 (by first|omega|(simp;done)|(simp;omega)) HR4.out HL4.out|exact Y8 HG4.out hbr4.out (by omega) (by first|(simp;done)|(simp;omega)) HR4.out HL4.out)⟩
    case rest=>
     obtain⟨rfl,q13,rfl,hq13,xe,xk,xc,hG13,hrd,hsl,hbz⟩:=hcut
     obtain⟨w7,hw7⟩:∃ z:World,z=wc:=⟨wc,rfl⟩
     subst hw7
     have hs13:=lt_of_block hG13
     have hs7:=hbz.size
     obtain⟨A5,n5,B5,m5,e1,e2⟩:=Qj hrd
     subst e1;subst e2
     obtain⟨C5,c5,e3⟩:=hsl.shape
     subst e3
     have HG13:=hid hG13
     have HR13:=hid hrd
     have HS13:=hid hsl
     have HBZ:=hid hbz
     have HV7:Hid (w7.heap[wo.heap.size]?=some (.cells #[.slice A1 NT.es.length n1,.slice B1 NT.ks.length r1,.slice C1 NC.length c1] 29 (0,0))):=(hbz.block _ hl1).trans HG1.out
     have HW7:Hid (w7.heap[wo.heap.size+1]?=some (.cells #[.slice A2 OT.es.length n2,.slice B2 OT.ks.length r2,.slice C2 OC.length c2] 29 (0,0))):=(hbz.block _ hl2).trans HG2.out
     have HSS:Hid (∀ W,Below w7.heap.size w7 W->(W.cell? ⟨wo.heap.size,0,none⟩=some (.slice A1 NT.es.length n1)/\W.cell? ⟨wo.heap.size,1,none⟩=some (.slice B1 NT.ks.length r1)/\W.cell? ⟨wo.heap.size,2,none⟩=some (.slice C1 NC.length c1)/\W.cell? ⟨wo.heap.size+1,0,none⟩=some (.slice A2 OT.es.length n2)/\W.cell? ⟨wo.heap.size+1,1,none⟩=some (.slice B2 OT.ks.length r2)/\W.cell? ⟨wo.heap.size+1,2,none⟩=some (.slice C2 OC.length c2)/\W.cell? ⟨q13,0,none⟩=some (.slice A5 PT.es.length n5)/\W.cell? ⟨q13,1,none⟩=some (.slice B5 PT.ks.length m5)/\W.cell? ⟨q13,2,none⟩=some (.slice C5 PC.length c5))):=fun W hW=>by
      have g1:=(hW.block wo.heap.size (by omega)).trans HV7.out
      have g2:=(hW.block (wo.heap.size+1) (by omega)).trans HW7.out
      have g3:=(hW.block q13 hs13).trans HG13.out
      exact⟨Qa (i:=0) g1,Qa (i:=1) g1,Qa (i:=2) g1,Qa (i:=0) g2,Qa (i:=1) g2,Qa (i:=2) g2,Qa (i:=0) g3,Qa (i:=1) g3,Qa (i:=2) g3⟩
     have HKW:Hid (∀ W,Below w7.heap.size w7 W->(NT.rd W W.heap.size (.slice A1 NT.es.length n1) (.slice B1 NT.ks.length r1)/\SlP W W.heap.size 3 SpE (.slice C1 NC.length c1) NC/\PT.rd W W.heap.size (.slice A5 PT.es.length n5) (.slice B5 PT.ks.length m5)/\SlP W W.heap.size 3 SpE (.slice C5 PC.length c5) PC/\OT.rd W W.heap.size (.slice A2 OT.es.length n2) (.slice B2 OT.ks.length r2)/\SlP W W.heap.size 3 SpE (.slice C2 OC.length c2) OC/\True)):=fun W hW=>by
      have hW':=HBZ.out.trans (hW.mono hs7)
      exact⟨QQ HN.out (fun _ hb=>hb.2.2) hW',HNC.out.slp (fun _ hb=>hb.2.2) hW',QQ HR13.out (fun _ hb=>hb.2) hW,HS13.out.slp (fun _ hb=>hb.2) hW,QQ HO.out (fun _ hb=>hb.2) hW',HOC.out.slp (fun _ hb=>hb.2) hW',trivial⟩
     have HFZ:Hid (∀ W,Below w7.heap.size w7 W->(W.frozen? ⟨wo.heap.size,0,none⟩=false/\W.frozen? ⟨wo.heap.size,1,none⟩=false/\W.frozen? ⟨wo.heap.size,2,none⟩=false/\W.frozen? ⟨wo.heap.size+1,0,none⟩=false/\W.frozen? ⟨wo.heap.size+1,1,none⟩=false/\W.frozen? ⟨wo.heap.size+1,2,none⟩=false)):=fun W hW=>by
      have g1:=(hW.block wo.heap.size (by omega)).trans HV7.out
      have g2:=(hW.block (wo.heap.size+1) (by omega)).trans HW7.out
      exact⟨Qb g1,Qb g1,Qb g1,Qb g2,Qb g2,Qb g2⟩
     clear hG13 hrd hsl hbz q0 q1 p0 p1 p2 f0 f1 f2 f3 d0 d1 d2 d3
     go_upto_region 18 with (fail)
     refine Jy (S:=fun W=>(W.cell? ⟨wo.heap.size,0,none⟩=some (.slice A1 NT.es.length n1)/\W.cell? ⟨wo.heap.size,1,none⟩=some (.slice B1 NT.ks.length r1)/\W.cell? ⟨wo.heap.size,2,none⟩=some (.slice C1 NC.length c1)/\W.cell? ⟨wo.heap.size+1,0,none⟩=some (.slice A2 OT.es.length n2)/\W.cell? ⟨wo.heap.size+1,1,none⟩=some (.slice B2 OT.ks.length r2)/\W.cell? ⟨wo.heap.size+1,2,none⟩=some (.slice C2 OC.length c2)/\W.cell? ⟨q13,0,none⟩=some (.slice A5 PT.es.length n5)/\W.cell? ⟨q13,1,none⟩=some (.slice B5 PT.ks.length m5)/\W.cell? ⟨q13,2,none⟩=some (.slice C5 PC.length c5))) 6 (by kernel_rfl) (by kernel_rfl) ?_
     simp only[List.take_succ_cons,List.take_zero,List.drop_succ_cons,List.drop_zero]
     have hHeld:=HSS.out w7.drew ((Below.refl _ _).drew)
     refine wpAnyH_take (i:=0) (oi:=_) (v:=?v0) rfl (by kernel_rfl) (by kernel_rfl) (by kernel_rfl) (fun _ _ _ h=>h) (Or.inl ⟨by rfl,?h0⟩) (by assumption) ?_
     case h0=>(intro w hSw;(try dsimp only at hSw);go_simp;(try with_reducible rfl))
     simp only[Act.put,List.setIfInBounds_toArray,List.set_cons_zero,List.set_cons_succ,List.getElem_toArray,List.getElem_cons_zero,List.getElem_cons_succ]
     refine wpAnyH_take (i:=1) (oi:=_) (v:=?v1) rfl (by kernel_rfl) (by kernel_rfl) (by kernel_rfl) (fun _ _ _ h=>h) (Or.inl ⟨by rfl,?h1⟩) (by assumption) ?_
     case h1=>(intro w hSw;(try dsimp only at hSw);go_simp;(try with_reducible rfl))
     simp only[Act.put,List.setIfInBounds_toArray,List.set_cons_zero,List.set_cons_succ,List.getElem_toArray,List.getElem_cons_zero,List.getElem_cons_succ]
     refine wpAnyH_take (i:=3) (oi:=_) (v:=?v3) rfl (by kernel_rfl) (by kernel_rfl) (by kernel_rfl) (fun _ _ _ h=>h) (Or.inl ⟨by rfl,?h3⟩) (by assumption) ?_
     case h3=>(intro w hSw;(try dsimp only at hSw);go_simp;(try with_reducible rfl))
     simp only[Act.put,List.setIfInBounds_toArray,List.set_cons_zero,List.set_cons_succ,List.getElem_toArray,List.getElem_cons_zero,List.getElem_cons_succ]
     refine wpAnyH_take (i:=4) (oi:=_) (v:=?v4) rfl (by kernel_rfl) (by kernel_rfl) (by kernel_rfl) (fun _ _ _ h=>h) (Or.inl ⟨by rfl,?h4⟩) (by assumption) ?_
     case h4=>(intro w hSw;(try dsimp only at hSw);go_simp;(try with_reducible rfl))
     simp only[Act.put,List.setIfInBounds_toArray,List.set_cons_zero,List.set_cons_succ,List.getElem_toArray,List.getElem_cons_zero,List.getElem_cons_succ]
     refine wpAnyH_ready (rs:=[2]) (by kernel_rfl) (by simp) ?_
     refine AllReadyH.cons (o:=_) rfl (fun K hK=>?_) AllReadyH.nil
     (go_simp;refine (Xl NC PC NT PT _ _ _ _ _ _ _ (HKW.out _ ((Below.refl w7.heap.size w7).drew)).1 (HKW.out _ ((Below.refl w7.heap.size w7).drew)).2.2.1 (HKW.out _ ((Below.refl w7.heap.size w7).drew)).2.1 (HKW.out _ ((Below.refl w7.heap.size w7).drew)).2.2.2.1 (by omega) (by omega) HP1.out HP3.out (by omega) (by omega)).mono ?_;rw[HN1.out,HN2.out];rintro e w8 ⟨ve8,vk8,vc8,rfl,hrd8,hsl8,hb8⟩;obtain⟨A8,n8,B8,m8,e1,e2⟩:=Qj hrd8;subst e1;subst e2;obtain⟨C8,c8,e3⟩:=hsl8.shape;subst e3;(have HB8:Hid (Below w7.heap.size w7 w8):=hid (Below.trans ((Below.refl w7.heap.size w7).drew) (hb8.mono (by first|omega|(simp;done)|(simp;omega)))));(have HR8:=hid (Qp (fun _ _=>rfl) (okw8 w7 (by first|omega|(simp;done)|(simp;omega))) _ _ _ hrd8));(have HS8:=hid (hsl8.up (fun _ _=>rfl) (okw8 w7 (by first|omega|(simp;done)|(simp;omega))) fun _ _ _ h=>h));(have hs8:=HB8.out.size);(have HL8:=hid hb8);clear hrd8 hsl8 hb8)
     refine hK.out _ _ ?_ (fun hHeld2=>?_)
     ·(exact HSS.out _ HB8.out)
     clear hK K
     try simp only[Act.put,List.setIfInBounds_toArray,List.set_cons_zero,List.set_cons_succ,List.getElem_toArray,List.getElem_cons_zero,List.getElem_cons_succ]
     refine wpAnyH_ready (rs:=[5]) (by kernel_rfl) (by simp) ?_
     refine AllReadyH.cons (o:=_) rfl (fun K hK=>?_) AllReadyH.nil
     (go_simp;refine (Xl OC PC OT PT _ _ _ _ _ _ _ (HKW.out _ HB8.out).2.2.2.2.1 (HKW.out _ HB8.out).2.2.1 (HKW.out _ HB8.out).2.2.2.2.2.1 (HKW.out _ HB8.out).2.2.2.1 (by omega) (by omega) HP2.out HP3.out (by omega) (by omega)).mono ?_;rw[HO1.out,HO2.out];rintro e w9 ⟨ve9,vk9,vc9,rfl,hrd9,hsl9,hb9⟩;obtain⟨A9,n9,B9,m9,e1,e2⟩:=Qj hrd9;subst e1;subst e2;obtain⟨C9,c9,e3⟩:=hsl9.shape;subst e3;(have HB9:Hid (Below w7.heap.size w7 w9):=hid (Below.trans HB8.out (hb9.mono (by first|omega|(simp;done)|(simp;omega)))));(have HR9:=hid (Qp (fun _ _=>rfl) (okw8 w7 (by first|omega|(simp;done)|(simp;omega))) _ _ _ hrd9));(have HS9:=hid (hsl9.up (fun _ _=>rfl) (okw8 w7 (by first|omega|(simp;done)|(simp;omega))) fun _ _ _ h=>h));(have hs9:=HB9.out.size);(have HL9:=hid hb9);clear hrd9 hsl9 hb9)
     refine hK.out _ _ ?_ (fun hHeld5=>?_)
     ·(exact HSS.out _ HB9.out)
     clear hK K
     try simp only[Act.put,List.setIfInBounds_toArray,List.set_cons_zero,List.set_cons_succ,List.getElem_toArray,List.getElem_cons_zero,List.getElem_cons_succ]
     have HR8':=hid (Qp (ok':=fun b=>w7.heap.size<=b/\b<w9.heap.size) (fun b hb=>HL9.out.block b hb.2) (fun b hb=>⟨hb.1,Nat.lt_of_lt_of_le hb.2 HL9.out.size⟩) _ _ _ HR8.out)
     have HS8':=hid (HS8.out.up (ok':=fun b=>w7.heap.size<=b/\b<w9.heap.size) (fun b hb=>HL9.out.block b hb.2) (fun b hb=>⟨hb.1,Nat.lt_of_lt_of_le hb.2 HL9.out.size⟩) fun _ _ _ h=>h)
     obtain⟨k0,k1,k2,k3,k4,k5,_⟩:=HSS.out _ HB9.out
     obtain⟨z0,z1,z2,z3,z4,z5⟩:=HFZ.out _ HB9.out
     have HFI:=hid (zYk (B:=wo.heap.size) (w7:=w7) (w6:=w9) (J:=(JT,JC)) (K:=(KT,KC)) (m:=m1+1) (by omega) HB9.out HV7.out HW7.out HR8'.out HS8'.out HR9.out HS9.out)
     have hl7:wo.heap.size+1<w9.heap.size:=by have:=HB9.out.size;omega
     have hn7:wo.heap.size+1≠wo.heap.size:=by omega
     have hn8:wo.heap.size≠wo.heap.size+1:=by omega
     refine wpAnyH_done (by kernel_rfl) ?_ _
     change wpList _ _ _ _ _ _
     go_wp2_with fail
     change wpList _ _ _ _ _ _
     go_wp2_with fail
     go_roundw
     case rel=>
      refine⟨m1+1,by omega,by go_num,by rw[HTK2.out];exact HFI.out.1,?_⟩
      exact ((((((HBr.out.trans ((HBZ.out.trans (HB9.out.mono hs7)).mono hsr')).setCell (p:=⟨wo.heap.size,0,none⟩) (by simp) _).setCell (p:=⟨wo.heap.size,1,none⟩) (by simp) _).setCell (p:=⟨wo.heap.size,2,none⟩) (by simp) _).setCell (p:=⟨wo.heap.size+1,0,none⟩) (by simp) _).setCell (p:=⟨wo.heap.size+1,1,none⟩) (by simp) _).setCell (p:=⟨wo.heap.size+1,2,none⟩) (by simp) _
     case measure=>simp[intOf];omega
   ·have hke:m1=ops.length:=by omega
    have hm1:¬(m1:Int)<(ops.length:Int):=by omega
    have HOL':Hid (chS (nmD dc fr) G ops=(m1,(NT,NC),(OT,OC))):=by
     have h:=HS.out
     rw[List.take_of_length_le (by omega)]at h
     exact h
    obtain⟨hBx,hsx,hGx,_⟩:=HX.out _ HBX2.out
    have HBX:=hid hBx
    have HGX:=hid hGx
    have hneR:w.heap.size+1≠wo.heap.size+1:=by omega
    obtain⟨k0,k1,k2,z0,z1,z2⟩:=bz3 hGx
    clear hBx hGx HS hke
    go_wp2_with fail
    obtain⟨y0,y1,y2,hK,hS⟩:=box3 HGX.out (.slice A2 OT.es.length n2) (.slice B2 OT.ks.length r2) (.slice C2 OC.length c2)
    refine bodyPost_ret (v:=.tuple #[.agg #[.slice A2 OT.es.length n2,.slice B2 OT.ks.length r2,.slice C2 OC.length c2],.int .i64 0]) (by simp[results,Tryz.results32,go_sem,y0,y1,y2]<;>rfl) rfl ⟨.slice A2 OT.es.length n2,.slice B2 OT.ks.length r2,.slice C2 OC.length c2,by first|rfl|rw[HDI.out],?_,?_,((HBX.out.setCell (p:=⟨w.heap.size+1,0,none⟩) (by simp) _).setCell (p:=⟨w.heap.size+1,1,none⟩) (by simp) _).setCell (p:=⟨w.heap.size+1,2,none⟩) (by simp) _⟩
    ·rw[HKN.out,HOL'.out]
     exact Qp (fun b hb=>hK b (by have:=hb.1;omega)) (fun b hb=>⟨by have:=hb.1;omega,by rw[hS];exact hb.2⟩) _ _ _ HO.out
    ·rw[HKN.out,HOL'.out]
     exact HOC.out.up (fun b hb=>hK b (by have:=hb.1;omega)) (fun b hb=>⟨by have:=hb.1;omega,by rw[hS];exact hb.2⟩) fun _ _ _ h=>h
def c20:ByteArray:=⟨#[99]⟩
def o20:Opr:=⟨[c20],5,ByteArray.empty,2⟩
def t20:Tr:=.mk [] [(c20,.mk [⟨0,1099511627765,ByteArray.empty,2⟩] [])]
theorem zYl:begE kn0=0:=by kernel_rfl
theorem qXo:doI kn0 0 o20=0:=by kernel_rfl
theorem zYm:appI kn0.1 o20 (txD 0)=0:=by kernel_rfl
theorem zYn:appT kn0.1 o20 (txD 0)=t20:=by kernel_rfl
theorem zYo:readI t20 [c20]=0:=by kernel_rfl
theorem zYp:readV t20 [c20]=⟨3,false,2,[]⟩:=by kernel_rfl
theorem zYq:(doK kn0 0 o20).1=t20:=by
 have h1:doK kn0 0 o20=aftK kn0 o20 (txD 0):=if_pos qXo
 have h2:aftK kn0 o20 (txD 0)=(appT kn0.1 o20 (txD 0),appC kn0.1 o20 (txD 0)):=qWk (QM zYm).1
 rw[h1,h2]
 exact zYn
theorem KG (w:World):Calls Tryz.prog 18 #[] w fun e w'=>e=.returned (.bool true)/\Below w.heap.size w w':=by
 have HO:Hid (o20.Ok):=⟨⟨by decide,by decide⟩,⟨by decide,by decide⟩,by decide⟩
 have HCB:Hid (c20.size<=Big):=by unfold Hid;decide
 have HI:=hid qXo
 go_enter Tryz.func18,Tryz.ntmps18
 go_wp2_with fail
 refine (qZa kn0 _ _ _ _ qXu SlP.nil (by simp[kn0,Tr.sz,Tr.szL]) (by simp[kn0])).mono ?_
 rintro e w1 (⟨h1,_⟩|⟨_,g,v,rfl,hg,hst,hb1⟩)
 ·rw[zYl]at h1;cases h1
 have HST:=hid hst
 have hs1:=hb1.size
 have hgl:=hst.lt
 clear hst
 go_wp2_with fail
 refine (qJc o20 _ _ (HST.out.grow ((Below.refl _ w1).alloc (Nat.le_refl _) (.cells #[.string c20] 9))) qQ1 (by simp[kn0,Tr.sz,Tr.szL]) (by simp[kn0]) (by simp) (SlA.one (E:=StE) (x:=c20) (cs:=[.string c20]) ⟨rfl,HCB.out⟩ rfl (Qd rfl) ⟨by omega,by simp,by simp[Value.ownBlock]⟩) HO.out (by simp[o20])).mono ?_
 have hI:doI kn0 ([]:List Opr).length o20=0:=qXo
 have hK:(doK kn0 ([]:List Opr).length o20).1=t20:=zYq
 rintro e w2 ⟨rfl,⟨v2,vo2,hst2,_,_⟩,hkp,hbl⟩
 rw[hI]
 have HK:=hid hK
 have HST2:=hid hst2
 have hs2:=hbl.size
 rw[World.size_alloc]at hs2
 have HB2:Hid (Below w.heap.size w w2):=hid ((hb1.alloc hs1 _).trans (hbl.mono hg))
 have hsw2:=HB2.out.size
 clear hK hI hst2 hkp hbl hb1
 go_wp2_with fail
 refine (qKo [c20] _ (HST2.out.grow ((Below.refl _ w2).alloc (Nat.le_refl _) (.cells #[.string c20] 9))) (SlP.oneB (E:=StE) (x:=c20) (cs:=[.string c20]) ⟨rfl,HCB.out⟩ rfl _ rfl (by simp)) (by rw[HK.out];decide)).mono ?_
 rw[HK.out,zYo,zYp]
 rintro e w3 ⟨vl,rfl,hsl,hb3⟩
 obtain⟨Al,nl,rfl⟩:=hsl.shape
 have hB3:=(HB2.out.alloc hsw2 (.cells #[.string c20] 9)).trans (hb3.mono (by rw[World.size_alloc];omega))
 have hb4:=hB3.alloc (o:=.cells #[.int .i64 3,.bool false,.int .i64 2,.slice Al 0 nl] 55) hB3.size
 have HB4:=hid hb4
 clear hsl hb3 hB3 hb4
 go_wp2_with fail
 go_ret
 exact⟨rfl,HB4.out⟩
theorem qUv (t:Tr)(c:List Sp):(trEq t t&&decide (c=c))=true:=by rw[VR.2 rfl];simp
theorem qUw (t:Tr)(tc:List Sp)(l:List Opr)(dc:Int)(fr:Int)(w:World)(ve0 vk0 vc0 vl1:Value)(h0:t.rd w w.heap.size ve0 vk0)(hc0:SlP w w.heap.size 3 SpE vc0 tc)(h1:OpL w vl1 l)(h2:I64 dc)(h3:I64 fr) :
  Calls Tryz.prog 7 #[.agg #[ve0,vk0,vc0],vl1,.int .i64 dc,.int .i64 fr] w fun e w'=>e=.returned (.bool true)/\Below w.heap.size w w':=by
 have HC0:Hid (∀ w',Below w.heap.size w w'->t.rd w' w'.heap.size ve0 vk0):=fun w' hb=>Qi hb hb.size _ _ _ h0
 have HD0:Hid (∀ w',Below w.heap.size w w'->SlP w' w'.heap.size 3 SpE vc0 tc):=fun w' hb=>hc0.imp hb hb.size fun _ _ _ h=>h
 obtain⟨A0,n0,B0,m0,rfl,rfl⟩:=Qk h0
 obtain⟨D0,k0,rfl,_⟩:=hc0
 clear h0
 have HC1:Hid (∀ w',Below w.heap.size w w'->OpL w' vl1 l):=fun w' hb=>h1.up hb
 obtain⟨A1,n1,rfl,_⟩:=id h1
 have HX0:Hid (∀ W,Below (w.heap.size+1) (w.alloc (.cells #[.slice A0 t.es.length n0,.slice B0 t.ks.length m0,.slice D0 tc.length k0] 29)) W->(Below w.heap.size w W/\w.heap.size+1<=(W).heap.size/\t.rd W (W).heap.size (.slice A0 t.es.length n0) (.slice B0 t.ks.length m0)/\SlP W (W).heap.size 3 SpE (.slice D0 tc.length k0) tc/\OpL W (.slice A1 l.length n1) l/\(W).cell? ⟨w.heap.size,0,none⟩=some (.slice A0 t.es.length n0)/\(W).cell? ⟨w.heap.size,1,none⟩=some (.slice B0 t.ks.length m0)/\(W).cell? ⟨w.heap.size,2,none⟩=some (.slice D0 tc.length k0))):=fun W hW=>by
  have g0:W.heap[w.heap.size]?=some (.cells #[.slice A0 t.es.length n0,.slice B0 t.ks.length m0,.slice D0 tc.length k0] 29 (0,0)):=(hW.block _ (by omega)).trans (Qd rfl)
  have hB:Below w.heap.size w W:=((Below.refl _ w).alloc (Nat.le_refl _) _).trans (hW.mono (by omega))
  exact⟨hB,by have:=hW.size;simpa using this,HC0.out _ hB,HD0.out _ hB,HC1.out _ hB,Qa (i:=0) g0,Qa (i:=1) g0,Qa (i:=2) g0⟩
 go_enter Tryz.func7,Tryz.ntmps7
 obtain⟨FW,HFW⟩:∃ q,Hid (fewL (t,tc) l=q):=⟨_,rfl⟩
 go_wp2_with fail
 obtain⟨hB,hs,rt0,rc0,ro1,c00,c01,c02⟩:=HX0.out _ (Below.refl _ _)
 refine (KG _).mono ?_
 rintro e w1 ⟨rfl,hb⟩
 have hbk1:Hid (Below (w.heap.size+1) (w.alloc (.cells #[.slice A0 t.es.length n0,.slice B0 t.ks.length m0,.slice D0 tc.length k0] 29)) w1):=hid (hb.mono (by first|omega|(simp;done)|(simp;omega)))
 clear hb
 clear hB hs rt0 rc0 ro1 c00 c01 c02
 obtain⟨hB,hs,rt0,rc0,ro1,c00,c01,c02⟩:=HX0.out _ hbk1.out
 go_wp2_with fail
 refine (qUp (t,tc) l _ _ _ _ _ rt0 rc0 ro1).mono ?_
 rw[HFW.out]
 rintro e w2 ⟨rfl,hb⟩
 have hbk2:Hid (Below (w.heap.size+1) (w.alloc (.cells #[.slice A0 t.es.length n0,.slice B0 t.ks.length m0,.slice D0 tc.length k0] 29)) w2):=hid (hbk1.out.trans (hb.mono (by first|omega|(simp;done)|(simp;omega))))
 clear hb
 clear hB hs rt0 rc0 ro1 c00 c01 c02
 obtain⟨hB,hs,rt0,rc0,ro1,c00,c01,c02⟩:=HX0.out _ hbk2.out
 cases FW
 ·skip
  go_wp2_with fail
  refine (KG _).mono ?_
  rintro e w3 ⟨rfl,hb⟩
  have hbk3:Hid (Below (w.heap.size+1) (w.alloc (.cells #[.slice A0 t.es.length n0,.slice B0 t.ks.length m0,.slice D0 tc.length k0] 29)) w3):=hid (hbk2.out.trans (hb.mono (by first|omega|(simp;done)|(simp;omega))))
  clear hb
  clear hB hs rt0 rc0 ro1 c00 c01 c02
  obtain⟨hB,hs,rt0,rc0,ro1,c00,c01,c02⟩:=HX0.out _ hbk3.out
  go_wp2_with fail
  go_ret
  exact⟨rfl,hB⟩
 ·skip
  have HSZ:Hid ((t.sz<=40/\tc.length<=40)/\l.length<=20/\l.all Zb=true):=by
   have h:=HFW.out
   unfold fewL at h
   simp only[Bool.and_eq_true,decide_eq_true_eq]at h
   exact⟨zX6 h.1,h.2.1,h.2.2⟩
  have hz:=HSZ.out.1.1
  have hz2:=HSZ.out.1.2
  have hL:=HSZ.out.2.1
  have HSH:Hid (∀ o∈l,Zb o=true):=fun o ho=>List.all_eq_true.1 HSZ.out.2.2 o ho
  go_wp2_with fail
  refine (qUq (t,tc) l _ _ _ _ _ rt0 rc0 ro1 hz hz2 hL HSH.out).mono ?_
  rintro e w3 ⟨h,hb⟩
  have hbk3:Hid (Below (w.heap.size+1) (w.alloc (.cells #[.slice A0 t.es.length n0,.slice B0 t.ks.length m0,.slice D0 tc.length k0] 29)) w3):=hid (hbk2.out.trans (hb.mono (by first|omega|(simp;done)|(simp;omega))))
  clear hb
  clear hB hs rt0 rc0 ro1 c00 c01 c02
  obtain⟨hB,hs,rt0,rc0,ro1,c00,c01,c02⟩:=HX0.out _ hbk3.out
  rcases h with h|h
  ·skip
   obtain⟨hE,rfl⟩:=h
   go_wp2_with fail
   go_ret
   exact⟨rfl,hB.alloc (by omega) _⟩
  ·skip
   obtain⟨hE,g,okp,v,vo,ge,gk,gc,vr,ne,nk,nc,rfl,hg,hT,hr1,hs1,hr2,hs2,hro⟩:=h
   have HI0:=hid (KF (t,tc) l)
   have HMEM:=hid (zYg (t,tc) l)
   obtain⟨⟨O,⟨NT,NC⟩⟩,HS⟩:∃ S,Hid (txS (t,tc) l=S):=⟨_,rfl⟩
   rw[HS.out]at hT hr2 hs2 hro HI0 HMEM
   simp only at hT hr1 hs1 hr2 hs2 hro HMEM
   have HOP:Hid (∀ o∈O,o.path.length<=1000):=fun o ho=>by
    have h:=HSH.out o (HMEM.out o ho)
    unfold Zb at h
    simp only[Bool.and_eq_true,decide_eq_true_eq]at h
    omega
   have HK:Hid (KOk (t,tc)):=by
    have h:=hE
    unfold begE at h
    split at h
    ·rename_i hr;exact Xj.1 hr
    ·cases h
   have HOWN:Hid (∀ k,k<12->hasC tc (txD k)=false):=by
    intro k hk
    have h:=hE
    unfold begE at h
    split at h
    ·split at h
     ·cases h
     ·rename_i hn
      cases hh:hasC tc (txD k)
      ·rfl
      ·exact absurd (Yd.2 ⟨k,hk,hh⟩) hn
    ·cases h
   have hIl:O.length<=12:=HI0.out.len
   have hfx:=HI0.out.facts HK.out hz hz2
   have HKN:Hid (KOk (NT,NC)):=hid hfx.1
   have hzN:NT.sz<=100:=hfx.2.1
   have hzC:NC.length<=6040:=hfx.2.2
   clear hfx hE
   obtain⟨Ag,ng,Bg,mg,rfl,rfl⟩:=Qk hr1
   obtain⟨Cg,kg,rfl,_⟩:=id hs1
   obtain⟨An,nn,Bn,mn,rfl,rfl⟩:=Qk hr2
   obtain⟨Cn,kn,rfl,_⟩:=id hs2
   obtain⟨Ao,no,rfl,_⟩:=id hro
   have hlt3797:w.heap.size<w3.heap.size:=by omega
   have hne3797:w.heap.size≠w3.heap.size:=by omega
   have hnr3797:w3.heap.size≠w.heap.size:=by omega
   have hgw:g<w3.heap.size:=hT.lt
   have HX1:Hid (∀ W,Below (w3.heap.size+1) (w3.alloc (.cells #[.slice Ag t.es.length ng,.slice Bg t.ks.length mg,.slice Cg tc.length kg,.slice Ao O.length no,.slice An NT.es.length nn,.slice Bn NT.ks.length mn,.slice Cn NC.length kn] 51)) W->(w3.heap.size+1<=(W).heap.size/\TxB W g okp v vo (t,tc) (NT,NC) O/\t.rd W (W).heap.size (.slice Ag t.es.length ng) (.slice Bg t.ks.length mg)/\SlP W (W).heap.size 3 SpE (.slice Cg tc.length kg) tc/\NT.rd W (W).heap.size (.slice An NT.es.length nn) (.slice Bn NT.ks.length mn)/\SlP W (W).heap.size 3 SpE (.slice Cn NC.length kn) NC/\OpL W (.slice Ao O.length no) O/\(W).cell? ⟨w3.heap.size,0,none⟩=some (.slice Ag t.es.length ng)/\(W).cell? ⟨w3.heap.size,1,none⟩=some (.slice Bg t.ks.length mg)/\(W).cell? ⟨w3.heap.size,2,none⟩=some (.slice Cg tc.length kg)/\(W).cell? ⟨w3.heap.size,3,none⟩=some (.slice Ao O.length no)/\(W).cell? ⟨w3.heap.size,4,none⟩=some (.slice An NT.es.length nn)/\(W).cell? ⟨w3.heap.size,5,none⟩=some (.slice Bn NT.ks.length mn)/\(W).cell? ⟨w3.heap.size,6,none⟩=some (.slice Cn NC.length kn)/\Below w.heap.size w W/\w.heap.size+1<=(W).heap.size/\t.rd W (W).heap.size (.slice A0 t.es.length n0) (.slice B0 t.ks.length m0)/\SlP W (W).heap.size 3 SpE (.slice D0 tc.length k0) tc/\OpL W (.slice A1 l.length n1) l/\(W).cell? ⟨w.heap.size,0,none⟩=some (.slice A0 t.es.length n0)/\(W).cell? ⟨w.heap.size,1,none⟩=some (.slice B0 t.ks.length m0)/\(W).cell? ⟨w.heap.size,2,none⟩=some (.slice D0 tc.length k0))):=fun W hW=>by
    have g0:=(hW.block w3.heap.size (by omega)).trans (Qd rfl)
    have hB:Below w3.heap.size w3 W:=((Below.refl _ w3).alloc (Nat.le_refl _) _).trans (hW.mono (by omega))
    exact⟨by have:=hW.size;simpa using this,hT.grow hB,Qi hB hB.size _ _ _ hr1,hs1.imp hB hB.size (fun _ _ _ h=>h),Qi hB hB.size _ _ _ hr2,hs2.imp hB hB.size (fun _ _ _ h=>h),hro.up hB,Qa (i:=0) g0,Qa (i:=1) g0,Qa (i:=2) g0,Qa (i:=3) g0,Qa (i:=4) g0,Qa (i:=5) g0,Qa (i:=6) g0,HX0.out W (hbk3.out.trans (hB.mono (by omega)))⟩
   clear hT hr1 hs1 hr2 hs2 hro
   have HDF:Hid (delI (t,tc) O dc fr=0->DelF (t,tc) O dc fr):=hid (qUs HK.out hz hIl HOWN.out HI0.out.ok)
   obtain⟨DT,HDT⟩:∃ q,Hid ((delK (t,tc) O dc fr).1=q):=⟨_,rfl⟩
   obtain⟨DC,HDC⟩:∃ q,Hid ((delK (t,tc) O dc fr).2=q):=⟨_,rfl⟩
   obtain⟨E,HDE⟩:∃ q,Hid (delI (t,tc) O dc fr=q):=⟨_,rfl⟩
   go_wp2_with fail
   clear hB hs rt0 rc0 ro1 c00 c01 c02
   obtain⟨hs_t,rx_t,rt_g,rc_g,rt_n,rc_n,ro_n,c0_t,c1_t,c2_t,c3_t,c4_t,c5_t,c6_t,hB,hs,rt0,rc0,ro1,c00,c01,c02⟩:=HX1.out _ (Below.refl _ _)
   refine (qXl dc fr rx_t HK.out hz hz2 hIl HDF.out h2 h3).mono ?_
   rw[HDT.out,HDC.out,HDE.out]
   rintro e w4 ⟨xe4,xk4,xc4,rfl,hrd4,hsl4,hb⟩
   obtain⟨A4x,n4x,B4x,m4x,rfl,rfl⟩:=Qj hrd4
   obtain⟨D4x,k4x,rfl⟩:=hsl4.shape
   have hbk4:Hid (Below (w3.heap.size+1) (w3.alloc (.cells #[.slice Ag t.es.length ng,.slice Bg t.ks.length mg,.slice Cg tc.length kg,.slice Ao O.length no,.slice An NT.es.length nn,.slice Bn NT.ks.length mn,.slice Cn NC.length kn] 51)) w4):=hid (hb.mono (by first|omega|(simp;done)|(simp;omega)))
   clear hb
   clear hs_t rx_t rt_g rc_g rt_n rc_n ro_n c0_t c1_t c2_t c3_t c4_t c5_t c6_t hB hs rt0 rc0 ro1 c00 c01 c02
   obtain⟨hs_t,rx_t,rt_g,rc_g,rt_n,rc_n,ro_n,c0_t,c1_t,c2_t,c3_t,c4_t,c5_t,c6_t,hB,hs,rt0,rc0,ro1,c00,c01,c02⟩:=HX1.out _ hbk4.out
   have hlt4797:w.heap.size<w4.heap.size:=by omega
   have hne4797:w.heap.size≠w4.heap.size:=by omega
   have hnr4797:w4.heap.size≠w.heap.size:=by omega
   have hlt4128:w3.heap.size<w4.heap.size:=by omega
   have hne4128:w3.heap.size≠w4.heap.size:=by omega
   have hnr4128:w4.heap.size≠w3.heap.size:=by omega
   have HX2:Hid (∀ W,Below (w4.heap.size+1) (w4.alloc (.cells #[.slice A4x DT.es.length n4x,.slice B4x DT.ks.length m4x,.slice D4x DC.length k4x] 29)) W->(w4.heap.size+1<=(W).heap.size/\DT.rd W (W).heap.size (.slice A4x DT.es.length n4x) (.slice B4x DT.ks.length m4x)/\SlP W (W).heap.size 3 SpE (.slice D4x DC.length k4x) DC/\(W).cell? ⟨w4.heap.size,0,none⟩=some (.slice A4x DT.es.length n4x)/\(W).cell? ⟨w4.heap.size,1,none⟩=some (.slice B4x DT.ks.length m4x)/\(W).cell? ⟨w4.heap.size,2,none⟩=some (.slice D4x DC.length k4x)/\w3.heap.size+1<=(W).heap.size/\TxB W g okp v vo (t,tc) (NT,NC) O/\t.rd W (W).heap.size (.slice Ag t.es.length ng) (.slice Bg t.ks.length mg)/\SlP W (W).heap.size 3 SpE (.slice Cg tc.length kg) tc/\NT.rd W (W).heap.size (.slice An NT.es.length nn) (.slice Bn NT.ks.length mn)/\SlP W (W).heap.size 3 SpE (.slice Cn NC.length kn) NC/\OpL W (.slice Ao O.length no) O/\(W).cell? ⟨w3.heap.size,0,none⟩=some (.slice Ag t.es.length ng)/\(W).cell? ⟨w3.heap.size,1,none⟩=some (.slice Bg t.ks.length mg)/\(W).cell? ⟨w3.heap.size,2,none⟩=some (.slice Cg tc.length kg)/\(W).cell? ⟨w3.heap.size,3,none⟩=some (.slice Ao O.length no)/\(W).cell? ⟨w3.heap.size,4,none⟩=some (.slice An NT.es.length nn)/\(W).cell? ⟨w3.heap.size,5,none⟩=some (.slice Bn NT.ks.length mn)/\(W).cell? ⟨w3.heap.size,6,none⟩=some (.slice Cn NC.length kn)/\Below w.heap.size w W/\w.heap.size+1<=(W).heap.size/\t.rd W (W).heap.size (.slice A0 t.es.length n0) (.slice B0 t.ks.length m0)/\SlP W (W).heap.size 3 SpE (.slice D0 tc.length k0) tc/\OpL W (.slice A1 l.length n1) l/\(W).cell? ⟨w.heap.size,0,none⟩=some (.slice A0 t.es.length n0)/\(W).cell? ⟨w.heap.size,1,none⟩=some (.slice B0 t.ks.length m0)/\(W).cell? ⟨w.heap.size,2,none⟩=some (.slice D0 tc.length k0))):=fun W hW=>by
    have g0:=(hW.block w4.heap.size (by omega)).trans (Qd rfl)
    have hB:Below w4.heap.size w4 W:=((Below.refl _ w4).alloc (Nat.le_refl _) _).trans (hW.mono (by omega))
    exact⟨by have:=hW.size;simpa using this,QQ hrd4 (fun b hb=>hb.2) hB,hsl4.slp (fun b hb=>hb.2) hB,Qa (i:=0) g0,Qa (i:=1) g0,Qa (i:=2) g0,HX1.out W (hbk4.out.trans (hB.mono (by omega)))⟩
   clear hrd4 hsl4
   go_wp2_with fail
   clear hs_t rx_t rt_g rc_g rt_n rc_n ro_n c0_t c1_t c2_t c3_t c4_t c5_t c6_t hB hs rt0 rc0 ro1 c00 c01 c02
   obtain⟨hs_x,rt_x,rc_x,c0_x,c1_x,c2_x,hs_t,rx_t,rt_g,rc_g,rt_n,rc_n,ro_n,c0_t,c1_t,c2_t,c3_t,c4_t,c5_t,c6_t,hB,hs,rt0,rc0,ro1,c00,c01,c02⟩:=HX2.out _ (Below.refl _ _)
   refine (qZg (G:=(t,tc)) (N:=(NT,NC)) dc fr _ _ _ _ _ _ _ rt_g rc_g rt_n rc_n ro_n HK.out hz hz2 hIl HOP.out HDF.out h2 h3).mono ?_
   rw[HDT.out,HDC.out,HDE.out]
   rintro e w5 ⟨xe5,xk5,xc5,rfl,hrd5,hsl5,hb⟩
   obtain⟨A5x,n5x,B5x,m5x,rfl,rfl⟩:=Qj hrd5
   obtain⟨D5x,k5x,rfl⟩:=hsl5.shape
   have hbk5:Hid (Below (w4.heap.size+1) (w4.alloc (.cells #[.slice A4x DT.es.length n4x,.slice B4x DT.ks.length m4x,.slice D4x DC.length k4x] 29)) w5):=hid (hb.mono (by first|omega|(simp;done)|(simp;omega)))
   clear hb
   clear hs_x rt_x rc_x c0_x c1_x c2_x hs_t rx_t rt_g rc_g rt_n rc_n ro_n c0_t c1_t c2_t c3_t c4_t c5_t c6_t hB hs rt0 rc0 ro1 c00 c01 c02
   obtain⟨hs_x,rt_x,rc_x,c0_x,c1_x,c2_x,hs_t,rx_t,rt_g,rc_g,rt_n,rc_n,ro_n,c0_t,c1_t,c2_t,c3_t,c4_t,c5_t,c6_t,hB,hs,rt0,rc0,ro1,c00,c01,c02⟩:=HX2.out _ hbk5.out
   have hlt5797:w.heap.size<w5.heap.size:=by omega
   have hne5797:w.heap.size≠w5.heap.size:=by omega
   have hnr5797:w5.heap.size≠w.heap.size:=by omega
   have hlt5128:w3.heap.size<w5.heap.size:=by omega
   have hne5128:w3.heap.size≠w5.heap.size:=by omega
   have hnr5128:w5.heap.size≠w3.heap.size:=by omega
   have hlt5872:w4.heap.size<w5.heap.size:=by omega
   have hne5872:w4.heap.size≠w5.heap.size:=by omega
   have hnr5872:w5.heap.size≠w4.heap.size:=by omega
   have HX3:Hid (∀ W,Below (w5.heap.size+1) (w5.alloc (.cells #[.slice A5x DT.es.length n5x,.slice B5x DT.ks.length m5x,.slice D5x DC.length k5x] 29)) W->(w5.heap.size+1<=(W).heap.size/\DT.rd W (W).heap.size (.slice A5x DT.es.length n5x) (.slice B5x DT.ks.length m5x)/\SlP W (W).heap.size 3 SpE (.slice D5x DC.length k5x) DC/\(W).cell? ⟨w5.heap.size,0,none⟩=some (.slice A5x DT.es.length n5x)/\(W).cell? ⟨w5.heap.size,1,none⟩=some (.slice B5x DT.ks.length m5x)/\(W).cell? ⟨w5.heap.size,2,none⟩=some (.slice D5x DC.length k5x)/\w4.heap.size+1<=(W).heap.size/\DT.rd W (W).heap.size (.slice A4x DT.es.length n4x) (.slice B4x DT.ks.length m4x)/\SlP W (W).heap.size 3 SpE (.slice D4x DC.length k4x) DC/\(W).cell? ⟨w4.heap.size,0,none⟩=some (.slice A4x DT.es.length n4x)/\(W).cell? ⟨w4.heap.size,1,none⟩=some (.slice B4x DT.ks.length m4x)/\(W).cell? ⟨w4.heap.size,2,none⟩=some (.slice D4x DC.length k4x)/\w3.heap.size+1<=(W).heap.size/\TxB W g okp v vo (t,tc) (NT,NC) O/\t.rd W (W).heap.size (.slice Ag t.es.length ng) (.slice Bg t.ks.length mg)/\SlP W (W).heap.size 3 SpE (.slice Cg tc.length kg) tc/\NT.rd W (W).heap.size (.slice An NT.es.length nn) (.slice Bn NT.ks.length mn)/\SlP W (W).heap.size 3 SpE (.slice Cn NC.length kn) NC/\OpL W (.slice Ao O.length no) O/\(W).cell? ⟨w3.heap.size,0,none⟩=some (.slice Ag t.es.length ng)/\(W).cell? ⟨w3.heap.size,1,none⟩=some (.slice Bg t.ks.length mg)/\(W).cell? ⟨w3.heap.size,2,none⟩=some (.slice Cg tc.length kg)/\(W).cell? ⟨w3.heap.size,3,none⟩=some (.slice Ao O.length no)/\(W).cell? ⟨w3.heap.size,4,none⟩=some (.slice An NT.es.length nn)/\(W).cell? ⟨w3.heap.size,5,none⟩=some (.slice Bn NT.ks.length mn)/\(W).cell? ⟨w3.heap.size,6,none⟩=some (.slice Cn NC.length kn)/\Below w.heap.size w W/\w.heap.size+1<=(W).heap.size/\t.rd W (W).heap.size (.slice A0 t.es.length n0) (.slice B0 t.ks.length m0)/\SlP W (W).heap.size 3 SpE (.slice D0 tc.length k0) tc/\OpL W (.slice A1 l.length n1) l/\(W).cell? ⟨w.heap.size,0,none⟩=some (.slice A0 t.es.length n0)/\(W).cell? ⟨w.heap.size,1,none⟩=some (.slice B0 t.ks.length m0)/\(W).cell? ⟨w.heap.size,2,none⟩=some (.slice D0 tc.length k0))):=fun W hW=>by
    have g0:=(hW.block w5.heap.size (by omega)).trans (Qd rfl)
    have hB:Below w5.heap.size w5 W:=((Below.refl _ w5).alloc (Nat.le_refl _) _).trans (hW.mono (by omega))
    exact⟨by have:=hW.size;simpa using this,QQ hrd5 (fun b hb=>hb.2) hB,hsl5.slp (fun b hb=>hb.2) hB,Qa (i:=0) g0,Qa (i:=1) g0,Qa (i:=2) g0,HX2.out W (hbk5.out.trans (hB.mono (by omega)))⟩
   clear hrd5 hsl5
   go_wp2_with fail
   clear hs_x rt_x rc_x c0_x c1_x c2_x hs_t rx_t rt_g rc_g rt_n rc_n ro_n c0_t c1_t c2_t c3_t c4_t c5_t c6_t hB hs rt0 rc0 ro1 c00 c01 c02
   obtain⟨hs_y,rt_y,rc_y,c0_y,c1_y,c2_y,hs_x,rt_x,rc_x,c0_x,c1_x,c2_x,hs_t,rx_t,rt_g,rc_g,rt_n,rc_n,ro_n,c0_t,c1_t,c2_t,c3_t,c4_t,c5_t,c6_t,hB,hs,rt0,rc0,ro1,c00,c01,c02⟩:=HX3.out _ (Below.refl _ _)
   refine (qXp DT DT DC DC _ _ _ _ _ _ _ rt_x rt_y rc_x rc_y).mono ?_
   rw[qUv]
   rintro e w6 ⟨rfl,hb⟩
   have hbk6:Hid (Below (w5.heap.size+1) (w5.alloc (.cells #[.slice A5x DT.es.length n5x,.slice B5x DT.ks.length m5x,.slice D5x DC.length k5x] 29)) w6):=hid (hb.mono (by first|omega|(simp;done)|(simp;omega)))
   clear hb
   clear hs_y rt_y rc_y c0_y c1_y c2_y hs_x rt_x rc_x c0_x c1_x c2_x hs_t rx_t rt_g rc_g rt_n rc_n ro_n c0_t c1_t c2_t c3_t c4_t c5_t c6_t hB hs rt0 rc0 ro1 c00 c01 c02
   obtain⟨hs_y,rt_y,rc_y,c0_y,c1_y,c2_y,hs_x,rt_x,rc_x,c0_x,c1_x,c2_x,hs_t,rx_t,rt_g,rc_g,rt_n,rc_n,ro_n,c0_t,c1_t,c2_t,c3_t,c4_t,c5_t,c6_t,hB,hs,rt0,rc0,ro1,c00,c01,c02⟩:=HX3.out _ hbk6.out
   go_wp2_with fail
   go_ret
   exact⟨rfl,hB⟩
end Go.Proofs.YtbcoelggdikipaaGreat
namespace Go.Proofs.YtbcoelggdikipaaGreat
open Go.ChangeShapes Go.WideShapes Go.ChangeAt Go.RowKit
def Wt {H:Type}(P:Program)(t:TypeId)(d:DataW H):Prop:=∀ m∈d.weights P t,m<=reachBytes
section
variable {H:Type}{enc:TypeId×Value->H}{w:World}
theorem Wt.field {P:Program}{t:TypeId}{fs:Array Field}{parts:List (DataW H)}(hu:P.underlying t=some (.struct fs))(h:Wt P t (.agg parts)){i:Nat}{f:Field}{d:DataW H}(hf:fs[i]?=some f)(hd:parts[i]?=some d):Wt P f.type d:=fun m hm=>by
 refine h m ?_
 unfold DataW.weights
 rw[hu]
 exact DataW.weights_mem_each (j:=i) (t:=f.type) (d:=d) (by simp[hf]) hd m hm
theorem Wt.all {P:Program}{e:TypeId}:∀ {ds:List (DataW H)}{d:DataW H},d∈ds->∀ m∈d.weights P e,m∈DataW.weightsAll P e ds
 |x :: ds,d,hd,m,hm=>by
  rw[DataW.weightsAll]
  rcases List.mem_cons.1 hd with rfl|hd
  ·exact List.mem_append_left _ hm
  ·exact List.mem_append_right _ (Wt.all hd m hm)
theorem Wt.elem {P:Program}{t e:TypeId}{elems spare:List (DataW H)}(hu:P.underlying t=some (.slice e))(h:Wt P t (.slice elems spare)):(elems.length+spare.length)*P.bytesOf e<=reachBytes/\∀ d∈elems,Wt P e d:=by
 unfold Wt at h
 unfold DataW.weights at h
 rw[hu]at h
 refine⟨h _ (by simp),fun d hd m hm=>h m ?_⟩
 exact List.mem_cons_of_mem _ (List.mem_append_left _ (Wt.all hd m hm))
theorem Xc {n:Int}(h:(Lit.int .i64 n).wf=true):I64 n:=by
 have h1:IntKind.i64.min=-9223372036854775808:=rfl
 have h2:IntKind.i64.max=9223372036854775807:=rfl
 simp only[Lit.wf,Bool.and_eq_true,decide_eq_true_eq]at h
 unfold I64;omega
theorem XZ {α:Type}{E:α->List Value->Prop}{t e:TypeId}{sz bytes fuel:Nat}{cs:List Value}{x:DataW H×List MemPlace}(hu:Tryz.prog.underlying t=some (.slice e))(hC:Tryz.prog.cellsOf e=sz)(hsz:0<sz)(hB:Tryz.prog.bytesOf e=bytes)(hb:0<bytes)
  (h:DataW.trod enc Tryz.prog w 0 (fun _=>true) true fuel t cs=some x) (hw:Wt Tryz.prog t x.1)
  (hel:∀ n cs y,n<fuel->DataW.trod enc Tryz.prog w 0 (fun _=>true) true n e cs=some y->Wt Tryz.prog e y.1->∃ a,E a cs) :
  ∃ v xs,cs=[v]/\SlP w w.heap.size sz E v xs:=by
 rcases DataW.trod_slice hu h with⟨rfl,rfl⟩|⟨a,len,cap,elems,rest,n,rfl,rfl,rfl,_,hl,hm,hlen,he,hs,_⟩
 ·exact⟨_,[],rfl,SlP.nil⟩
 ·obtain⟨hr,hwe⟩:=Wt.elem hu hw
  rw[hB,List.length_map,List.length_map]at hr
  have hrl:=(hs rfl).1
  have hcap:cap<=Big:=by
   have h1:(elems.length+rest.length)*1<=(elems.length+rest.length)*bytes:=Nat.mul_le_mul_left _ hb
   unfold reachBytes at hr;unfold Big;omega
  have key:∀ i,i<len->∃ (x:α) (c:List Value),E x c/\c.length=sz/\∀ j,j<sz->w.cell? (a.add (i*sz+j))=c[j]?:=fun i hi=>by
   have h1:=he i hi
   have h2:elems[i]?=some elems[i]:=List.getElem?_eq_getElem (by omega)
   rw[h2]at h1
   obtain⟨c,h3,h4⟩:=Option.bind_eq_some_iff.1 h1
   obtain⟨_,h5,h6⟩:=World.cells?_some h3
   obtain⟨x,hx⟩:=hel n c elems[i] (Nat.lt_succ_self n) h4 (hwe _ (List.mem_map.2 ⟨elems[i],List.getElem_mem _,rfl⟩))
   rw[hC]at h5 h6
   exact⟨x,c,hx,h5,fun j hj=>by rw[←Go.Deep.add_add];exact h6 j hj⟩
  rcases Nat.eq_zero_or_pos len with h0|h0
  ·subst h0
   exact⟨_,[],rfl,⟨some a,cap,rfl,Nat.zero_le _,Nat.zero_le _,fun h=>absurd rfl h⟩⟩
  ·obtain⟨x0,c0,_,hc0,hcell0⟩:=key 0 h0
   have hv0:=hcell0 0 hsz
   rw[List.getElem?_eq_getElem (by omega)]at hv0
   obtain⟨b,off,spot⟩:=a
   have hspot:spot=none:=by simpa[Addr.add] using World.cell?_spot hv0
   subst hspot
   have hbl:b<w.heap.size:=by
    have:=World.block_lt_of_cell? w _ hv0
    simpa[Addr.add] using this
   classical
   refine⟨_,(List.range len).map fun i=>if hi:i<len then Classical.choose (key i hi) else x0,rfl,some ⟨b,off,none⟩,cap,by simp,by simp;omega,by simp;omega,fun _=>⟨b,off,rfl,hbl,fun j x hx=>?_⟩⟩
   have hj:j<len:=by have:=(List.getElem?_eq_some_iff.1 hx).1;simpa using this
   rw[List.getElem?_map,List.getElem?_range hj]at hx
   simp only[Option.map_some,dif_pos hj,Option.some.injEq]at hx
   obtain⟨c,h1,h2,h3⟩:=Classical.choose_spec (key j hj)
   rw[hx]at h1
   refine⟨c,h1,h2,fun i u hi=>?_⟩
   have hlt:i<sz:=by have:=(List.getElem?_eq_some_iff.1 hi).1;omega
   have:=h3 i hlt
   rw[hi]at this
   rw[←this]
   congr 1
   simp[Addr.add,Nat.add_assoc]
theorem qJj:Tryz.prog.cellsOf 78=2:=by kernel_rfl
theorem Vq:Tryz.prog.cellsOf 80=4:=by kernel_rfl
theorem KH:Tryz.prog.cellsOf 25=2:=by kernel_rfl
theorem qJk:Tryz.prog.cellsOf 96=3:=by kernel_rfl
theorem QY:Tryz.prog.cellsOf 9=1/\Tryz.prog.cellsOf 3=1/\Tryz.prog.cellsOf 2=1/\Tryz.prog.cellsOf 22=1/\Tryz.prog.cellsOf 23=1:=by refine⟨?_,?_,?_,?_,?_⟩<;>kernel_rfl
theorem qKt:Tryz.prog.bytesOf 80=40:=by kernel_rfl
theorem zZn:Tryz.prog.bytesOf 96=64:=by kernel_rfl
theorem zZo {fuel:Nat}{cs:List Value}{x:DataW H×List MemPlace}(h:DataW.trod enc Tryz.prog w 0 (fun _=>true) true fuel 78 cs=some x):∃ d:Dt,DtE d cs:=by
 obtain⟨xs,n,rfl,rfl,hl,hx,hf⟩:=DataW.trod_struct Tryz.underlying78 h
 rw[qJj]at hl
 match cs,hl with
 |[c0,c1],_=>
  match xs,hx with
  |[y0,y1],_=>
   have f0:DataW.trod enc Tryz.prog w 0 (fun _=>true) true n 3 (([c0,c1].drop 0).take (Tryz.prog.cellsOf 3))=some y0:=hf 0 _ rfl
   rw[QY.2.1]at f0
   have f1:DataW.trod enc Tryz.prog w 0 (fun _=>true) true n 2 (([c0,c1].drop 1).take (Tryz.prog.cellsOf 2))=some y1:=hf 1 _ rfl
   rw[QY.2.2.1]at f1
   obtain⟨a,e0,_,w0⟩:=DataW.trod_int Tryz.underlying3 (show DataW.trod enc Tryz.prog w 0 (fun _=>true) true n 3 [c0]=some y0 from f0)
   obtain⟨b,e1,_,w1⟩:=DataW.trod_int Tryz.underlying2 (show DataW.trod enc Tryz.prog w 0 (fun _=>true) true n 2 [c1]=some y1 from f1)
   simp at e0 e1
   subst e0;subst e1
   exact⟨⟨a,b⟩,rfl,Xc w0,Xc w1⟩
theorem qKu {fuel:Nat}{cs:List Value}{x:DataW H×List MemPlace}(h:DataW.trod enc Tryz.prog w 0 (fun _=>true) true fuel 80 cs=some x)(hw:Wt Tryz.prog 80 x.1):∃ e:En,EnE e cs:=by
 obtain⟨xs,n,rfl,rfl,hl,hx,hf⟩:=DataW.trod_struct Tryz.underlying80 h
 rw[Vq]at hl
 match cs,hl with
 |[c0,c1,c2,c3],_=>
  match xs,hx with
  |[y0,y1,y2],_=>
   have f0:DataW.trod enc Tryz.prog w 0 (fun _=>true) true n 78 (([c0,c1,c2,c3].drop 0).take (Tryz.prog.cellsOf 78))=some y0:=hf 0 _ rfl
   rw[qJj]at f0
   have f1:DataW.trod enc Tryz.prog w 0 (fun _=>true) true n 9 (([c0,c1,c2,c3].drop 2).take (Tryz.prog.cellsOf 9))=some y1:=hf 1 _ rfl
   rw[QY.1]at f1
   have f2:DataW.trod enc Tryz.prog w 0 (fun _=>true) true n 2 (([c0,c1,c2,c3].drop 3).take (Tryz.prog.cellsOf 2))=some y2:=hf 2 _ rfl
   rw[QY.2.2.1]at f2
   obtain⟨d,ed,od⟩:=zZo (show DataW.trod enc Tryz.prog w 0 (fun _=>true) true n 78 [c0,c1]=some y0 from f0)
   obtain⟨s,e1,hy1,_⟩:=DataW.trod_string Tryz.underlying9 (show DataW.trod enc Tryz.prog w 0 (fun _=>true) true n 9 [c2]=some y1 from f1)
   obtain⟨b,e2,_,w2⟩:=DataW.trod_int Tryz.underlying2 (show DataW.trod enc Tryz.prog w 0 (fun _=>true) true n 2 [c3]=some y2 from f2)
   have hs:s.size<=Big:=by
    have:=Wt.field Tryz.underlying80 hw (i:=1) (d:=y1.1) rfl rfl s.size (by rw[hy1];simp[DataW.weights])
    unfold reachBytes at this;unfold Big;omega
   simp at ed e1 e2
   obtain⟨rfl,rfl⟩:=ed
   subst e1;subst e2
   exact⟨⟨d.dc,d.n,s,b⟩,rfl,od.dc,od.n,Xc w2,hs⟩
theorem qUx:∀ (fuel:Nat) (cs:List Value) (x:DataW H×List MemPlace),DataW.trod enc Tryz.prog w 0 (fun _=>true) true fuel 25 cs=some x->Wt Tryz.prog 25 x.1->∃ t ve vk,cs=[ve,vk]/\Tr.rd w w.heap.size t ve vk:=by
 intro fuel
 induction fuel using Nat.strongRecOn with
 |ind fuel ih=>
 intro cs x h hw
 obtain⟨xs,n,rfl,rfl,hl,hx,hf⟩:=DataW.trod_struct Tryz.underlying25 h
 rw[KH]at hl
 match cs,hl with
 |[c0,c1],_=>
  match xs,hx with
  |[y0,y1],_=>
   have f0:DataW.trod enc Tryz.prog w 0 (fun _=>true) true n 22 (([c0,c1].drop 0).take (Tryz.prog.cellsOf 22))=some y0:=hf 0 _ rfl
   rw[QY.2.2.2.1]at f0
   have f1:DataW.trod enc Tryz.prog w 0 (fun _=>true) true n 23 (([c0,c1].drop 1).take (Tryz.prog.cellsOf 23))=some y1:=hf 1 _ rfl
   rw[QY.2.2.2.2]at f1
   obtain⟨v0,es,e0,h0⟩:=XZ (E:=EnE) Tryz.underlying22 Vq (by decide) qKt (by decide) (show DataW.trod enc Tryz.prog w 0 (fun _=>true) true n 22 [c0]=some y0 from f0) (Wt.field Tryz.underlying25 hw (i:=0) rfl rfl)
    (fun m cs y _ hy hwy=>qKu hy hwy)
   obtain⟨v1,ks,e1,h1⟩:=XZ (E:=KdE w w.heap.size) Tryz.underlying23 qJk (by decide) zZn (by decide) (show DataW.trod enc Tryz.prog w 0 (fun _=>true) true n 23 [c1]=some y1 from f1) (Wt.field Tryz.underlying25 hw (i:=1) rfl rfl)
    (fun m cs y hm hy hwy=>by
     obtain⟨zs,k,rfl,rfl,hl,hz,hg⟩:=DataW.trod_struct Tryz.underlying96 hy
     rw[qJk]at hl
     match cs,hl with
     |[d0,d1,d2],_=>
      match zs,hz with
      |[z0,z1],_=>
       have g0:DataW.trod enc Tryz.prog w 0 (fun _=>true) true k 9 (([d0,d1,d2].drop 0).take (Tryz.prog.cellsOf 9))=some z0:=hg 0 _ rfl
       rw[QY.1]at g0
       have g1:DataW.trod enc Tryz.prog w 0 (fun _=>true) true k 25 (([d0,d1,d2].drop 1).take (Tryz.prog.cellsOf 25))=some z1:=hg 1 _ rfl
       rw[KH]at g1
       obtain⟨s,u1,hy1,_⟩:=DataW.trod_string Tryz.underlying9 (show DataW.trod enc Tryz.prog w 0 (fun _=>true) true k 9 [d0]=some z0 from g0)
       obtain⟨t,ve,vk,u2,ht⟩:=ih k (by omega) [d1,d2] z1 (show DataW.trod enc Tryz.prog w 0 (fun _=>true) true k 25 [d1,d2]=some z1 from g1) (Wt.field Tryz.underlying96 hwy (i:=1) rfl rfl)
       have hs:s.size<=Big:=by
        have:=Wt.field Tryz.underlying96 hwy (i:=0) (d:=z0.1) rfl rfl s.size (by rw[hy1];simp[DataW.weights])
        unfold reachBytes at this;unfold Big;omega
       simp at u1 u2
       obtain⟨rfl,rfl⟩:=u2
       subst u1
       exact⟨(s,t),d1,d2,rfl,hs,ht⟩)
   simp at e0 e1
   subst e0;subst e1
   exact⟨.mk es ks,c0,c1,rfl,QE.2 ⟨h0,h1⟩⟩
theorem X0 (hl:laidOutB Tryz.prog=true){W':World}:∀ (ts:List TypeId) (vs:List Value) (ds:List (DataW H)) (ps:List MemPlace),(∀ t∈ts,Tryz.prog.readableRec t=true/\t<Tryz.prog.types.size) ->
  DataW.TrodAll enc Tryz.prog w 0 (fun _=>true) true ts vs ds ps->Below w.heap.size w W'->(∀ x∈ps,x.block<w.heap.size)->DataW.TrodAll enc Tryz.prog W' 0 (fun b=>decide (b<w.heap.size)) true ts vs ds ps
 |[],[],[],ps,_,h,_,_=>h
 |t :: ts,v :: vs,d :: ds,ps,hr,h,hb,hlt=>by
  obtain⟨p,q,h1,h2,rfl⟩:=h
  exact⟨p,q,Below.trod hl (hr t (by simp)).1 (hr t (by simp)).2 h1 hb (fun x hx=>hlt x (List.mem_append_left _ hx)),X0 hl ts vs ds q (fun t ht=>hr t (by simp[ht])) h2 hb (fun x hx=>hlt x (List.mem_append_right _ hx)),rfl⟩
end
theorem own:ownKnob Tryz.prog.godebug=none:=by kernel_rfl
theorem zYr:laidOutB Tryz.prog=true:=by kernel_rfl
theorem zYs:Tryz.prog.readableRec 2=true/\2<Tryz.prog.types.size:=⟨by kernel_rfl,of_decide_eq_true (by kernel_rfl)⟩
theorem zYt {H:Type}{enc:TypeId×Value->H}{W:World}{base:Nat}{v:Value}{d:DataW H}{p:List MemPlace}(hv:Value.okWide Tryz.prog W .any base 2 v)(h:DataW.Trod enc Tryz.prog W 0 (fun _=>true) true 2 v d p) :
  ∃ n:Int,v=.int .i64 n/\I64 n:=by
 obtain⟨n,rfl,_,_,hw⟩:=open_int Tryz.underlying2 hv h
 exact⟨n,rfl,Xc hw⟩
end Go.Proofs.YtbcoelggdikipaaGreat
