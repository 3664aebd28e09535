/- What the laws need. No condition but those that each lemma states. -/
import Derived.Deep.Slices
import Derived.ProofKit
import Derived.SizedLaws
import Derived.Test.YtbcoelggdikipaaGreatProg
import Derived.Test.YtbcoelggdikipaaGreatRows
import Derived.Test.YtbcoelggdikipaaGreatUp16
import Derived.Test.YtbcoelggdikipaaGreatUp12
import Derived.Test.YtbcoelggdikipaaGreatUp13
import Derived.Test.YtbcoelggdikipaaGreatUp14
import Derived.Test.YtbcoelggdikipaaGreatUp3
import Derived.Test.YtbcoelggdikipaaGreatUp1
set_option maxRecDepth 100000
set_option maxHeartbeats 8000000
set_option linter.unusedSimpArgs false
namespace Go.Proofs.YtbcoelggdikipaaGreat
open Go.RowKit
theorem qUi (t:Tr)(c:List Sp):(trEq t t&&decide (c=c))=true:=by rw[VE.2 rfl];simp
theorem qUj (t:Tr)(tc:List Sp)(l:List Opr)(p:List ByteArray)(w:World)(ve0 vk0 vc0 vl1 vl2:Value)(h0:t.rd w w.heap.size ve0 vk0)(hc0:SlP w w.heap.size 3 SpE vc0 tc)(h1:OpL w vl1 l)(h2:SlP w w.heap.size 1 StE vl2 p) :
  Calls Tryz.prog 5 #[.agg #[ve0,vk0,vc0],vl1,vl2] w fun e w'=>e=.returned (.bool true)/\Below w.heap.size w w':=by
 have HC0:Hid (∀ w',Below w.heap.size w w'->t.rd w' w'.heap.size ve0 vk0):=fun w' hb=>Qi hb hb.size _ _ _ h0
 have HD0:Hid (∀ w',Below w.heap.size w w'->SlP w' w'.heap.size 3 SpE vc0 tc):=fun w' hb=>hc0.imp hb hb.size fun _ _ _ h=>h
 obtain⟨A0,n0,B0,m0,rfl,rfl⟩:=Qj h0
 obtain⟨D0,k0,rfl,_⟩:=hc0
 clear h0
 have HC1:Hid (∀ w',Below w.heap.size w w'->OpL w' vl1 l):=fun w' hb=>h1.up hb
 obtain⟨A1,n1,rfl,_⟩:=id h1
 have HC2:Hid (∀ w',Below w.heap.size w w'->SlP w' w'.heap.size 1 StE vl2 p):=fun w' hb=>h2.imp hb hb.size fun _ _ _ h=>h
 obtain⟨A2,n2,rfl,_⟩:=h2
 have HX0:Hid (∀ W,Below (w.heap.size+1) (w.alloc (.cells #[.slice A0 t.es.length n0,.slice B0 t.ks.length m0,.slice D0 tc.length k0] 29)) W->(Below w.heap.size w W/\w.heap.size+1<=(W).heap.size/\t.rd W (W).heap.size (.slice A0 t.es.length n0) (.slice B0 t.ks.length m0)/\SlP W (W).heap.size 3 SpE (.slice D0 tc.length k0) tc/\OpL W (.slice A1 l.length n1) l/\SlP W (W).heap.size 1 StE (.slice A2 p.length n2) p/\(W).cell? ⟨w.heap.size,0,none⟩=some (.slice A0 t.es.length n0)/\(W).cell? ⟨w.heap.size,1,none⟩=some (.slice B0 t.ks.length m0)/\(W).cell? ⟨w.heap.size,2,none⟩=some (.slice D0 tc.length k0))):=fun W hW=>by
  have g0:W.heap[w.heap.size]?=some (.cells #[.slice A0 t.es.length n0,.slice B0 t.ks.length m0,.slice D0 tc.length k0] 29 (0,0)):=(hW.block _ (by omega)).trans (Qd rfl)
  have hB:Below w.heap.size w W:=((Below.refl _ w).alloc (Nat.le_refl _) _).trans (hW.mono (by omega))
  exact⟨hB,by have:=hW.size;simpa using this,HC0.out _ hB,HD0.out _ hB,HC1.out _ hB,HC2.out _ hB,Qa (i:=0) g0,Qa (i:=1) g0,Qa (i:=2) g0⟩
 go_enter Tryz.func5,Tryz.ntmps5
 obtain⟨FW,HFW⟩:∃ q,Hid (fewL (t,tc) l=q):=⟨_,rfl⟩
 go_wp2_with fail
 obtain⟨hB,hs,rt0,rc0,ro1,rl2,c00,c01,c02⟩:=HX0.out _ (Below.refl _ _)
 refine (Xf _).mono ?_
 rintro e w1 ⟨rfl,hb⟩
 have hbk1:Hid (Below (w.heap.size+1) (w.alloc (.cells #[.slice A0 t.es.length n0,.slice B0 t.ks.length m0,.slice D0 tc.length k0] 29)) w1):=hid (hb.mono (by first|omega|(simp;done)|(simp;omega)))
 clear hb
 clear hB hs rt0 rc0 ro1 rl2 c00 c01 c02
 obtain⟨hB,hs,rt0,rc0,ro1,rl2,c00,c01,c02⟩:=HX0.out _ hbk1.out
 go_wp2_with fail
 refine (qUg (t,tc) l _ _ _ _ _ rt0 rc0 ro1).mono ?_
 rw[HFW.out]
 rintro e w2 ⟨rfl,hb⟩
 have hbk2:Hid (Below (w.heap.size+1) (w.alloc (.cells #[.slice A0 t.es.length n0,.slice B0 t.ks.length m0,.slice D0 tc.length k0] 29)) w2):=hid (hbk1.out.trans (hb.mono (by first|omega|(simp;done)|(simp;omega))))
 clear hb
 clear hB hs rt0 rc0 ro1 rl2 c00 c01 c02
 obtain⟨hB,hs,rt0,rc0,ro1,rl2,c00,c01,c02⟩:=HX0.out _ hbk2.out
 cases FW
 ·skip
  go_wp2_with fail
  refine (Xf _).mono ?_
  rintro e w3 ⟨rfl,hb⟩
  have hbk3:Hid (Below (w.heap.size+1) (w.alloc (.cells #[.slice A0 t.es.length n0,.slice B0 t.ks.length m0,.slice D0 tc.length k0] 29)) w3):=hid (hbk2.out.trans (hb.mono (by first|omega|(simp;done)|(simp;omega))))
  clear hb
  clear hB hs rt0 rc0 ro1 rl2 c00 c01 c02
  obtain⟨hB,hs,rt0,rc0,ro1,rl2,c00,c01,c02⟩:=HX0.out _ hbk3.out
  go_wp2_with fail
  go_ret
  exact⟨rfl,hB⟩
 ·skip
  have HSZ:Hid ((t.sz<=40/\tc.length<=40)/\l.length<=20/\l.all Zb=true):=by
   have h:=HFW.out
   unfold fewL at h
   simp only[Bool.and_eq_true,decide_eq_true_eq]at h
   exact⟨zXp h.1,h.2.1,h.2.2⟩
  have hz:=HSZ.out.1.1
  have hz2:=HSZ.out.1.2
  have hL:=HSZ.out.2.1
  have HSH:Hid (∀ o∈l,Zb o=true):=fun o ho=>List.all_eq_true.1 HSZ.out.2.2 o ho
  by_cases h20:20<p.length
  ·skip
   have h20':decide ((20:Int)<(p.length:Int))=true:=decide_eq_true (by omega)
   skip
   go_wp2_with fail
   refine (Xf _).mono ?_
   rintro e w3 ⟨rfl,hb⟩
   have hbk3:Hid (Below (w.heap.size+1) (w.alloc (.cells #[.slice A0 t.es.length n0,.slice B0 t.ks.length m0,.slice D0 tc.length k0] 29)) w3):=hid (hbk2.out.trans (hb.mono (by first|omega|(simp;done)|(simp;omega))))
   clear hb
   clear hB hs rt0 rc0 ro1 rl2 c00 c01 c02
   obtain⟨hB,hs,rt0,rc0,ro1,rl2,c00,c01,c02⟩:=HX0.out _ hbk3.out
   go_wp2_with fail
   go_ret
   exact⟨rfl,hB⟩
  ·skip
   have h20':decide ((20:Int)<(p.length:Int))=false:=decide_eq_false (by omega)
   go_wp2_with fail
   refine (qUh (t,tc) l _ _ _ _ _ rt0 rc0 ro1 hz hz2 hL HSH.out).mono ?_
   rintro e w3 ⟨h,hb⟩
   have hbk3:Hid (Below (w.heap.size+1) (w.alloc (.cells #[.slice A0 t.es.length n0,.slice B0 t.ks.length m0,.slice D0 tc.length k0] 29)) w3):=hid (hbk2.out.trans (hb.mono (by first|omega|(simp;done)|(simp;omega))))
   clear hb
   clear hB hs rt0 rc0 ro1 rl2 c00 c01 c02
   obtain⟨hB,hs,rt0,rc0,ro1,rl2,c00,c01,c02⟩:=HX0.out _ hbk3.out
   rcases h with h|h
   ·skip
    obtain⟨hE,rfl⟩:=h
    go_wp2_with fail
    go_ret
    exact⟨rfl,hB.alloc (by omega) _⟩
   ·skip
    obtain⟨hE,g,okp,v,vo,ge,gk,gc,vr,ne,nk,nc,rfl,hg,hT,hr1,hs1,hr2,hs2,hro⟩:=h
    have HI0:=hid (Ku (t,tc) l)
    have HMEM:=hid (zXz (t,tc) l)
    obtain⟨⟨O,⟨NT,NC⟩⟩,HS⟩:∃ S,Hid (txS (t,tc) l=S):=⟨_,rfl⟩
    rw[HS.out]at hT hr2 hs2 hro HI0 HMEM
    simp only at hT hr1 hs1 hr2 hs2 hro HMEM
    have HOP:Hid (∀ o∈O,o.path.length<=1000):=fun o ho=>by
     have h:=HSH.out o (HMEM.out o ho)
     unfold Zb at h
     simp only[Bool.and_eq_true,decide_eq_true_eq]at h
     omega
    have HK:Hid (KOk (t,tc)):=by
     have h:=hE
     unfold begE at h
     split at h
     ·rename_i hr;exact YH.1 hr
     ·cases h
    have HOWN:Hid (∀ k,k<12->hasC tc (txD k)=false):=by
     intro k hk
     have h:=hE
     unfold begE at h
     split at h
     ·split at h
      ·cases h
      ·rename_i hn
       cases hh:hasC tc (txD k)
       ·rfl
       ·exact absurd (XO.2 ⟨k,hk,hh⟩) hn
     ·cases h
    have hIl:O.length<=12:=HI0.out.len
    have hfx:=HI0.out.facts HK.out hz hz2
    have HKN:Hid (KOk (NT,NC)):=hid hfx.1
    have hzN:NT.sz<=100:=hfx.2.1
    have hzC:NC.length<=6040:=hfx.2.2
    clear hfx hE
    obtain⟨Ag,ng,Bg,mg,rfl,rfl⟩:=Qj hr1
    obtain⟨Cg,kg,rfl,_⟩:=id hs1
    obtain⟨An,nn,Bn,mn,rfl,rfl⟩:=Qj hr2
    obtain⟨Cn,kn,rfl,_⟩:=id hs2
    obtain⟨Ao,no,rfl,_⟩:=id hro
    have hlt3797:w.heap.size<w3.heap.size:=by omega
    have hne3797:w.heap.size≠w3.heap.size:=by omega
    have hnr3797:w3.heap.size≠w.heap.size:=by omega
    have hgw:g<w3.heap.size:=hT.lt
    have HX1:Hid (∀ W,Below (w3.heap.size+1) (w3.alloc (.cells #[.slice Ag t.es.length ng,.slice Bg t.ks.length mg,.slice Cg tc.length kg,.slice Ao O.length no,.slice An NT.es.length nn,.slice Bn NT.ks.length mn,.slice Cn NC.length kn] 51)) W->(w3.heap.size+1<=(W).heap.size/\TxB W g okp v vo (t,tc) (NT,NC) O/\t.rd W (W).heap.size (.slice Ag t.es.length ng) (.slice Bg t.ks.length mg)/\SlP W (W).heap.size 3 SpE (.slice Cg tc.length kg) tc/\NT.rd W (W).heap.size (.slice An NT.es.length nn) (.slice Bn NT.ks.length mn)/\SlP W (W).heap.size 3 SpE (.slice Cn NC.length kn) NC/\OpL W (.slice Ao O.length no) O/\(W).cell? ⟨w3.heap.size,0,none⟩=some (.slice Ag t.es.length ng)/\(W).cell? ⟨w3.heap.size,1,none⟩=some (.slice Bg t.ks.length mg)/\(W).cell? ⟨w3.heap.size,2,none⟩=some (.slice Cg tc.length kg)/\(W).cell? ⟨w3.heap.size,3,none⟩=some (.slice Ao O.length no)/\(W).cell? ⟨w3.heap.size,4,none⟩=some (.slice An NT.es.length nn)/\(W).cell? ⟨w3.heap.size,5,none⟩=some (.slice Bn NT.ks.length mn)/\(W).cell? ⟨w3.heap.size,6,none⟩=some (.slice Cn NC.length kn)/\Below w.heap.size w W/\w.heap.size+1<=(W).heap.size/\t.rd W (W).heap.size (.slice A0 t.es.length n0) (.slice B0 t.ks.length m0)/\SlP W (W).heap.size 3 SpE (.slice D0 tc.length k0) tc/\OpL W (.slice A1 l.length n1) l/\SlP W (W).heap.size 1 StE (.slice A2 p.length n2) p/\(W).cell? ⟨w.heap.size,0,none⟩=some (.slice A0 t.es.length n0)/\(W).cell? ⟨w.heap.size,1,none⟩=some (.slice B0 t.ks.length m0)/\(W).cell? ⟨w.heap.size,2,none⟩=some (.slice D0 tc.length k0))):=fun W hW=>by
     have g0:=(hW.block w3.heap.size (by omega)).trans (Qd rfl)
     have hB:Below w3.heap.size w3 W:=((Below.refl _ w3).alloc (Nat.le_refl _) _).trans (hW.mono (by omega))
     exact⟨by have:=hW.size;simpa using this,hT.grow hB,Qi hB hB.size _ _ _ hr1,hs1.imp hB hB.size (fun _ _ _ h=>h),Qi hB hB.size _ _ _ hr2,hs2.imp hB hB.size (fun _ _ _ h=>h),hro.up hB,Qa (i:=0) g0,Qa (i:=1) g0,Qa (i:=2) g0,Qa (i:=3) g0,Qa (i:=4) g0,Qa (i:=5) g0,Qa (i:=6) g0,HX0.out W (hbk3.out.trans (hB.mono (by omega)))⟩
    clear hT hr1 hs1 hr2 hs2 hro
    obtain⟨V,HVE⟩:∃ q,Hid (readV (NT,NC).1 p=q):=⟨_,rfl⟩
    obtain⟨E,HEE⟩:∃ q,Hid (readI (NT,NC).1 p=q):=⟨_,rfl⟩
    have HVF:Hid (readV NT p=V):=HVE.out
    have HEF:Hid (readI NT p=E):=HEE.out
    have HCR:Hid (caR (t,tc).1 (t,tc).2=true):=hid (YH.2 HK.out)
    go_wp2_with fail
    clear hB hs rt0 rc0 ro1 rl2 c00 c01 c02
    obtain⟨hs_t,rx_t,rt_g,rc_g,rt_n,rc_n,ro_n,c0_t,c1_t,c2_t,c3_t,c4_t,c5_t,c6_t,hB,hs,rt0,rc0,ro1,rl2,c00,c01,c02⟩:=HX1.out _ (Below.refl _ _)
    refine (Vb p _ rx_t rl2 (by show NT.sz<=_;omega)).mono ?_
    rw[HVE.out,HEE.out]
    rintro e w4 ⟨vl4,rfl,hsl4,hb⟩
    obtain⟨D4x,k4x,rfl⟩:=hsl4.shape
    have hbk4:Hid (Below (w3.heap.size+1) (w3.alloc (.cells #[.slice Ag t.es.length ng,.slice Bg t.ks.length mg,.slice Cg tc.length kg,.slice Ao O.length no,.slice An NT.es.length nn,.slice Bn NT.ks.length mn,.slice Cn NC.length kn] 51)) w4):=hid (hb.mono (by first|omega|(simp;done)|(simp;omega)))
    clear hb
    clear hs_t rx_t rt_g rc_g rt_n rc_n ro_n c0_t c1_t c2_t c3_t c4_t c5_t c6_t hB hs rt0 rc0 ro1 rl2 c00 c01 c02
    obtain⟨hs_t,rx_t,rt_g,rc_g,rt_n,rc_n,ro_n,c0_t,c1_t,c2_t,c3_t,c4_t,c5_t,c6_t,hB,hs,rt0,rc0,ro1,rl2,c00,c01,c02⟩:=HX1.out _ hbk4.out
    have hlt4797:w.heap.size<w4.heap.size:=by omega
    have hne4797:w.heap.size≠w4.heap.size:=by omega
    have hnr4797:w4.heap.size≠w.heap.size:=by omega
    have hlt4128:w3.heap.size<w4.heap.size:=by omega
    have hne4128:w3.heap.size≠w4.heap.size:=by omega
    have hnr4128:w4.heap.size≠w3.heap.size:=by omega
    have HX2:Hid (∀ W,Below (w4.heap.size+1) (w4.alloc (.cells #[.int .i64 V.kind,.bool V.on,.int .i64 V.n,.slice D4x V.l.length k4x] 55)) W->(w4.heap.size+1<=(W).heap.size/\SlP W (W).heap.size 1 StE (.slice D4x V.l.length k4x) V.l/\(W).cell? ⟨w4.heap.size,0,none⟩=some (.int .i64 V.kind)/\(W).cell? ⟨w4.heap.size,1,none⟩=some (.bool V.on)/\(W).cell? ⟨w4.heap.size,2,none⟩=some (.int .i64 V.n)/\(W).cell? ⟨w4.heap.size,3,none⟩=some (.slice D4x V.l.length k4x)/\w3.heap.size+1<=(W).heap.size/\TxB W g okp v vo (t,tc) (NT,NC) O/\t.rd W (W).heap.size (.slice Ag t.es.length ng) (.slice Bg t.ks.length mg)/\SlP W (W).heap.size 3 SpE (.slice Cg tc.length kg) tc/\NT.rd W (W).heap.size (.slice An NT.es.length nn) (.slice Bn NT.ks.length mn)/\SlP W (W).heap.size 3 SpE (.slice Cn NC.length kn) NC/\OpL W (.slice Ao O.length no) O/\(W).cell? ⟨w3.heap.size,0,none⟩=some (.slice Ag t.es.length ng)/\(W).cell? ⟨w3.heap.size,1,none⟩=some (.slice Bg t.ks.length mg)/\(W).cell? ⟨w3.heap.size,2,none⟩=some (.slice Cg tc.length kg)/\(W).cell? ⟨w3.heap.size,3,none⟩=some (.slice Ao O.length no)/\(W).cell? ⟨w3.heap.size,4,none⟩=some (.slice An NT.es.length nn)/\(W).cell? ⟨w3.heap.size,5,none⟩=some (.slice Bn NT.ks.length mn)/\(W).cell? ⟨w3.heap.size,6,none⟩=some (.slice Cn NC.length kn)/\Below w.heap.size w W/\w.heap.size+1<=(W).heap.size/\t.rd W (W).heap.size (.slice A0 t.es.length n0) (.slice B0 t.ks.length m0)/\SlP W (W).heap.size 3 SpE (.slice D0 tc.length k0) tc/\OpL W (.slice A1 l.length n1) l/\SlP W (W).heap.size 1 StE (.slice A2 p.length n2) p/\(W).cell? ⟨w.heap.size,0,none⟩=some (.slice A0 t.es.length n0)/\(W).cell? ⟨w.heap.size,1,none⟩=some (.slice B0 t.ks.length m0)/\(W).cell? ⟨w.heap.size,2,none⟩=some (.slice D0 tc.length k0))):=fun W hW=>by
     have g0:=(hW.block w4.heap.size (by omega)).trans (Qd rfl)
     have hB:Below w4.heap.size w4 W:=((Below.refl _ w4).alloc (Nat.le_refl _) _).trans (hW.mono (by omega))
     exact⟨by have:=hW.size;simpa using this,hsl4.slp (fun b hb=>hb.2) hB,Qa (i:=0) g0,Qa (i:=1) g0,Qa (i:=2) g0,Qa (i:=3) g0,HX1.out W (hbk4.out.trans (hB.mono (by omega)))⟩
    clear hsl4
    go_wp2_with fail
    clear hs_t rx_t rt_g rc_g rt_n rc_n ro_n c0_t c1_t c2_t c3_t c4_t c5_t c6_t hB hs rt0 rc0 ro1 rl2 c00 c01 c02
    obtain⟨hs_v,rl_v,c0_v,c1_v,c2_v,c3_v,hs_t,rx_t,rt_g,rc_g,rt_n,rc_n,ro_n,c0_t,c1_t,c2_t,c3_t,c4_t,c5_t,c6_t,hB,hs,rt0,rc0,ro1,rl2,c00,c01,c02⟩:=HX2.out _ (Below.refl _ _)
    refine (qXh NT p _ _ _ _ rt_n rl2 (by omega)).mono ?_
    rw[HVF.out,HEF.out]
    rintro e w5 ⟨vl5,rfl,hsl5,hb⟩
    obtain⟨D5x,k5x,rfl⟩:=hsl5.shape
    have hbk5:Hid (Below (w4.heap.size+1) (w4.alloc (.cells #[.int .i64 V.kind,.bool V.on,.int .i64 V.n,.slice D4x V.l.length k4x] 55)) w5):=hid (hb.mono (by first|omega|(simp;done)|(simp;omega)))
    clear hb
    clear hs_v rl_v c0_v c1_v c2_v c3_v hs_t rx_t rt_g rc_g rt_n rc_n ro_n c0_t c1_t c2_t c3_t c4_t c5_t c6_t hB hs rt0 rc0 ro1 rl2 c00 c01 c02
    obtain⟨hs_v,rl_v,c0_v,c1_v,c2_v,c3_v,hs_t,rx_t,rt_g,rc_g,rt_n,rc_n,ro_n,c0_t,c1_t,c2_t,c3_t,c4_t,c5_t,c6_t,hB,hs,rt0,rc0,ro1,rl2,c00,c01,c02⟩:=HX2.out _ hbk5.out
    have hlt5797:w.heap.size<w5.heap.size:=by omega
    have hne5797:w.heap.size≠w5.heap.size:=by omega
    have hnr5797:w5.heap.size≠w.heap.size:=by omega
    have hlt5128:w3.heap.size<w5.heap.size:=by omega
    have hne5128:w3.heap.size≠w5.heap.size:=by omega
    have hnr5128:w5.heap.size≠w3.heap.size:=by omega
    have hlt5872:w4.heap.size<w5.heap.size:=by omega
    have hne5872:w4.heap.size≠w5.heap.size:=by omega
    have hnr5872:w5.heap.size≠w4.heap.size:=by omega
    have HX3:Hid (∀ W,Below (w5.heap.size+1) (w5.alloc (.cells #[.int .i64 V.kind,.bool V.on,.int .i64 V.n,.slice D5x V.l.length k5x] 55)) W->(w5.heap.size+1<=(W).heap.size/\SlP W (W).heap.size 1 StE (.slice D5x V.l.length k5x) V.l/\(W).cell? ⟨w5.heap.size,0,none⟩=some (.int .i64 V.kind)/\(W).cell? ⟨w5.heap.size,1,none⟩=some (.bool V.on)/\(W).cell? ⟨w5.heap.size,2,none⟩=some (.int .i64 V.n)/\(W).cell? ⟨w5.heap.size,3,none⟩=some (.slice D5x V.l.length k5x)/\w4.heap.size+1<=(W).heap.size/\SlP W (W).heap.size 1 StE (.slice D4x V.l.length k4x) V.l/\(W).cell? ⟨w4.heap.size,0,none⟩=some (.int .i64 V.kind)/\(W).cell? ⟨w4.heap.size,1,none⟩=some (.bool V.on)/\(W).cell? ⟨w4.heap.size,2,none⟩=some (.int .i64 V.n)/\(W).cell? ⟨w4.heap.size,3,none⟩=some (.slice D4x V.l.length k4x)/\w3.heap.size+1<=(W).heap.size/\TxB W g okp v vo (t,tc) (NT,NC) O/\t.rd W (W).heap.size (.slice Ag t.es.length ng) (.slice Bg t.ks.length mg)/\SlP W (W).heap.size 3 SpE (.slice Cg tc.length kg) tc/\NT.rd W (W).heap.size (.slice An NT.es.length nn) (.slice Bn NT.ks.length mn)/\SlP W (W).heap.size 3 SpE (.slice Cn NC.length kn) NC/\OpL W (.slice Ao O.length no) O/\(W).cell? ⟨w3.heap.size,0,none⟩=some (.slice Ag t.es.length ng)/\(W).cell? ⟨w3.heap.size,1,none⟩=some (.slice Bg t.ks.length mg)/\(W).cell? ⟨w3.heap.size,2,none⟩=some (.slice Cg tc.length kg)/\(W).cell? ⟨w3.heap.size,3,none⟩=some (.slice Ao O.length no)/\(W).cell? ⟨w3.heap.size,4,none⟩=some (.slice An NT.es.length nn)/\(W).cell? ⟨w3.heap.size,5,none⟩=some (.slice Bn NT.ks.length mn)/\(W).cell? ⟨w3.heap.size,6,none⟩=some (.slice Cn NC.length kn)/\Below w.heap.size w W/\w.heap.size+1<=(W).heap.size/\t.rd W (W).heap.size (.slice A0 t.es.length n0) (.slice B0 t.ks.length m0)/\SlP W (W).heap.size 3 SpE (.slice D0 tc.length k0) tc/\OpL W (.slice A1 l.length n1) l/\SlP W (W).heap.size 1 StE (.slice A2 p.length n2) p/\(W).cell? ⟨w.heap.size,0,none⟩=some (.slice A0 t.es.length n0)/\(W).cell? ⟨w.heap.size,1,none⟩=some (.slice B0 t.ks.length m0)/\(W).cell? ⟨w.heap.size,2,none⟩=some (.slice D0 tc.length k0))):=fun W hW=>by
     have g0:=(hW.block w5.heap.size (by omega)).trans (Qd rfl)
     have hB:Below w5.heap.size w5 W:=((Below.refl _ w5).alloc (Nat.le_refl _) _).trans (hW.mono (by omega))
     exact⟨by have:=hW.size;simpa using this,hsl5.slp (fun b hb=>hb.2) hB,Qa (i:=0) g0,Qa (i:=1) g0,Qa (i:=2) g0,Qa (i:=3) g0,HX2.out W (hbk5.out.trans (hB.mono (by omega)))⟩
    clear hsl5
    go_wp2_with fail
    clear hs_v rl_v c0_v c1_v c2_v c3_v hs_t rx_t rt_g rc_g rt_n rc_n ro_n c0_t c1_t c2_t c3_t c4_t c5_t c6_t hB hs rt0 rc0 ro1 rl2 c00 c01 c02
    obtain⟨hs_u,rl_u,c0_u,c1_u,c2_u,c3_u,hs_v,rl_v,c0_v,c1_v,c2_v,c3_v,hs_t,rx_t,rt_g,rc_g,rt_n,rc_n,ro_n,c0_t,c1_t,c2_t,c3_t,c4_t,c5_t,c6_t,hB,hs,rt0,rc0,ro1,rl2,c00,c01,c02⟩:=HX3.out _ (Below.refl _ _)
    refine (qUc rx_t (by omega) (fun x hx=>by have:=HOP.out x hx;omega)).mono ?_
    rintro e w6 ⟨vq,rfl,hoq,hb⟩
    obtain⟨Aq,nq,hvq⟩:=OwnP.shape hoq
    subst hvq
    have HQ:=hid (OwnD.opl hoq (by unfold Big;omega))
    clear hoq
    have hbk6:Hid (Below (w5.heap.size+1) (w5.alloc (.cells #[.int .i64 V.kind,.bool V.on,.int .i64 V.n,.slice D5x V.l.length k5x] 55)) w6):=hid (hb.mono (by first|omega|(simp;done)|(simp;omega)))
    clear hb
    clear hs_u rl_u c0_u c1_u c2_u c3_u hs_v rl_v c0_v c1_v c2_v c3_v hs_t rx_t rt_g rc_g rt_n rc_n ro_n c0_t c1_t c2_t c3_t c4_t c5_t c6_t hB hs rt0 rc0 ro1 rl2 c00 c01 c02
    obtain⟨hs_u,rl_u,c0_u,c1_u,c2_u,c3_u,hs_v,rl_v,c0_v,c1_v,c2_v,c3_v,hs_t,rx_t,rt_g,rc_g,rt_n,rc_n,ro_n,c0_t,c1_t,c2_t,c3_t,c4_t,c5_t,c6_t,hB,hs,rt0,rc0,ro1,rl2,c00,c01,c02⟩:=HX3.out _ hbk6.out
    clear hs_u rl_u c0_u c1_u c2_u c3_u hs_v rl_v c0_v c1_v c2_v c3_v hs_t rx_t rt_g rc_g rt_n rc_n ro_n c0_t c1_t c2_t c3_t c4_t c5_t c6_t hB hs rt0 rc0 ro1 rl2 c00 c01 c02
    have HX4:Hid (∀ W,Below (w6).heap.size w6 W->((w6).heap.size<=(W).heap.size/\OpL W (.slice Aq O.length nq) O/\w5.heap.size+1<=(W).heap.size/\SlP W (W).heap.size 1 StE (.slice D5x V.l.length k5x) V.l/\(W).cell? ⟨w5.heap.size,0,none⟩=some (.int .i64 V.kind)/\(W).cell? ⟨w5.heap.size,1,none⟩=some (.bool V.on)/\(W).cell? ⟨w5.heap.size,2,none⟩=some (.int .i64 V.n)/\(W).cell? ⟨w5.heap.size,3,none⟩=some (.slice D5x V.l.length k5x)/\w4.heap.size+1<=(W).heap.size/\SlP W (W).heap.size 1 StE (.slice D4x V.l.length k4x) V.l/\(W).cell? ⟨w4.heap.size,0,none⟩=some (.int .i64 V.kind)/\(W).cell? ⟨w4.heap.size,1,none⟩=some (.bool V.on)/\(W).cell? ⟨w4.heap.size,2,none⟩=some (.int .i64 V.n)/\(W).cell? ⟨w4.heap.size,3,none⟩=some (.slice D4x V.l.length k4x)/\w3.heap.size+1<=(W).heap.size/\TxB W g okp v vo (t,tc) (NT,NC) O/\t.rd W (W).heap.size (.slice Ag t.es.length ng) (.slice Bg t.ks.length mg)/\SlP W (W).heap.size 3 SpE (.slice Cg tc.length kg) tc/\NT.rd W (W).heap.size (.slice An NT.es.length nn) (.slice Bn NT.ks.length mn)/\SlP W (W).heap.size 3 SpE (.slice Cn NC.length kn) NC/\OpL W (.slice Ao O.length no) O/\(W).cell? ⟨w3.heap.size,0,none⟩=some (.slice Ag t.es.length ng)/\(W).cell? ⟨w3.heap.size,1,none⟩=some (.slice Bg t.ks.length mg)/\(W).cell? ⟨w3.heap.size,2,none⟩=some (.slice Cg tc.length kg)/\(W).cell? ⟨w3.heap.size,3,none⟩=some (.slice Ao O.length no)/\(W).cell? ⟨w3.heap.size,4,none⟩=some (.slice An NT.es.length nn)/\(W).cell? ⟨w3.heap.size,5,none⟩=some (.slice Bn NT.ks.length mn)/\(W).cell? ⟨w3.heap.size,6,none⟩=some (.slice Cn NC.length kn)/\Below w.heap.size w W/\w.heap.size+1<=(W).heap.size/\t.rd W (W).heap.size (.slice A0 t.es.length n0) (.slice B0 t.ks.length m0)/\SlP W (W).heap.size 3 SpE (.slice D0 tc.length k0) tc/\OpL W (.slice A1 l.length n1) l/\SlP W (W).heap.size 1 StE (.slice A2 p.length n2) p/\(W).cell? ⟨w.heap.size,0,none⟩=some (.slice A0 t.es.length n0)/\(W).cell? ⟨w.heap.size,1,none⟩=some (.slice B0 t.ks.length m0)/\(W).cell? ⟨w.heap.size,2,none⟩=some (.slice D0 tc.length k0))):=fun W hW=>
     ⟨hW.size,HQ.out.up hW,HX3.out W (hbk6.out.trans (hW.mono (by have:=Below.size hbk6.out;first|omega|(simp at this ⊢;omega))))⟩
    obtain⟨hs_b4,ro_q,hs_u,rl_u,c0_u,c1_u,c2_u,c3_u,hs_v,rl_v,c0_v,c1_v,c2_v,c3_v,hs_t,rx_t,rt_g,rc_g,rt_n,rc_n,ro_n,c0_t,c1_t,c2_t,c3_t,c4_t,c5_t,c6_t,hB,hs,rt0,rc0,ro1,rl2,c00,c01,c02⟩:=HX4.out _ (Below.refl _ _)
    go_upto_region 9 with (fail)
    have HK1:Hid (∀ W,Below (w6).heap.size w6 W->((W).cell? ⟨w5.heap.size,0,none⟩=some (.int .i64 V.kind)/\(W).cell? ⟨w5.heap.size,1,none⟩=some (.bool V.on)/\(W).cell? ⟨w5.heap.size,2,none⟩=some (.int .i64 V.n)/\(W).cell? ⟨w5.heap.size,3,none⟩=some (.slice D5x V.l.length k5x)/\(W).cell? ⟨w4.heap.size,0,none⟩=some (.int .i64 V.kind)/\(W).cell? ⟨w4.heap.size,1,none⟩=some (.bool V.on)/\(W).cell? ⟨w4.heap.size,2,none⟩=some (.int .i64 V.n)/\(W).cell? ⟨w4.heap.size,3,none⟩=some (.slice D4x V.l.length k4x)/\(W).cell? ⟨w3.heap.size,0,none⟩=some (.slice Ag t.es.length ng)/\(W).cell? ⟨w3.heap.size,1,none⟩=some (.slice Bg t.ks.length mg)/\(W).cell? ⟨w3.heap.size,2,none⟩=some (.slice Cg tc.length kg)/\(W).cell? ⟨w3.heap.size,3,none⟩=some (.slice Ao O.length no)/\(W).cell? ⟨w3.heap.size,4,none⟩=some (.slice An NT.es.length nn)/\(W).cell? ⟨w3.heap.size,5,none⟩=some (.slice Bn NT.ks.length mn)/\(W).cell? ⟨w3.heap.size,6,none⟩=some (.slice Cn NC.length kn)/\(W).cell? ⟨w.heap.size,0,none⟩=some (.slice A0 t.es.length n0)/\(W).cell? ⟨w.heap.size,1,none⟩=some (.slice B0 t.ks.length m0)/\(W).cell? ⟨w.heap.size,2,none⟩=some (.slice D0 tc.length k0))):=fun W hW=>by
     obtain⟨_,_,_,_,z_c0_u,z_c1_u,z_c2_u,z_c3_u,_,_,z_c0_v,z_c1_v,z_c2_v,z_c3_v,_,_,_,_,_,_,_,z_c0_t,z_c1_t,z_c2_t,z_c3_t,z_c4_t,z_c5_t,z_c6_t,_,_,_,_,_,_,z_c00,z_c01,z_c02⟩:=HX4.out W hW
     exact⟨z_c0_u,z_c1_u,z_c2_u,z_c3_u,z_c0_v,z_c1_v,z_c2_v,z_c3_v,z_c0_t,z_c1_t,z_c2_t,z_c3_t,z_c4_t,z_c5_t,z_c6_t,z_c00,z_c01,z_c02⟩
    have Hro_q_1:Hid (∀ W,Below (w6).heap.size w6 W->OpL W (.slice Aq O.length nq) O):=fun W hW=>by
     obtain⟨_,z,_,_,_,_,_,_,_,_,_,_,_,_,_,_,_,_,_,_,_,_,_,_,_,_,_,_,_,_,_,_,_,_,_,_,_⟩:=HX4.out W hW
     exact z
    have Hrl_u_1:Hid (∀ W,Below (w6).heap.size w6 W->SlP W (W).heap.size 1 StE (.slice D5x V.l.length k5x) V.l):=fun W hW=>by
     obtain⟨_,_,_,z,_,_,_,_,_,_,_,_,_,_,_,_,_,_,_,_,_,_,_,_,_,_,_,_,_,_,_,_,_,_,_,_,_⟩:=HX4.out W hW
     exact z
    have Hrl_v_1:Hid (∀ W,Below (w6).heap.size w6 W->SlP W (W).heap.size 1 StE (.slice D4x V.l.length k4x) V.l):=fun W hW=>by
     obtain⟨_,_,_,_,_,_,_,_,_,z,_,_,_,_,_,_,_,_,_,_,_,_,_,_,_,_,_,_,_,_,_,_,_,_,_,_,_⟩:=HX4.out W hW
     exact z
    have Hrx_t_1:Hid (∀ W,Below (w6).heap.size w6 W->TxB W g okp v vo (t,tc) (NT,NC) O):=fun W hW=>by
     obtain⟨_,_,_,_,_,_,_,_,_,_,_,_,_,_,_,z,_,_,_,_,_,_,_,_,_,_,_,_,_,_,_,_,_,_,_,_,_⟩:=HX4.out W hW
     exact z
    have Hrt_g_1:Hid (∀ W,Below (w6).heap.size w6 W->t.rd W (W).heap.size (.slice Ag t.es.length ng) (.slice Bg t.ks.length mg)):=fun W hW=>by
     obtain⟨_,_,_,_,_,_,_,_,_,_,_,_,_,_,_,_,z,_,_,_,_,_,_,_,_,_,_,_,_,_,_,_,_,_,_,_,_⟩:=HX4.out W hW
     exact z
    have Hrc_g_1:Hid (∀ W,Below (w6).heap.size w6 W->SlP W (W).heap.size 3 SpE (.slice Cg tc.length kg) tc):=fun W hW=>by
     obtain⟨_,_,_,_,_,_,_,_,_,_,_,_,_,_,_,_,_,z,_,_,_,_,_,_,_,_,_,_,_,_,_,_,_,_,_,_,_⟩:=HX4.out W hW
     exact z
    have Hrt_n_1:Hid (∀ W,Below (w6).heap.size w6 W->NT.rd W (W).heap.size (.slice An NT.es.length nn) (.slice Bn NT.ks.length mn)):=fun W hW=>by
     obtain⟨_,_,_,_,_,_,_,_,_,_,_,_,_,_,_,_,_,_,z,_,_,_,_,_,_,_,_,_,_,_,_,_,_,_,_,_,_⟩:=HX4.out W hW
     exact z
    have Hrc_n_1:Hid (∀ W,Below (w6).heap.size w6 W->SlP W (W).heap.size 3 SpE (.slice Cn NC.length kn) NC):=fun W hW=>by
     obtain⟨_,_,_,_,_,_,_,_,_,_,_,_,_,_,_,_,_,_,_,z,_,_,_,_,_,_,_,_,_,_,_,_,_,_,_,_,_⟩:=HX4.out W hW
     exact z
    have Hro_n_1:Hid (∀ W,Below (w6).heap.size w6 W->OpL W (.slice Ao O.length no) O):=fun W hW=>by
     obtain⟨_,_,_,_,_,_,_,_,_,_,_,_,_,_,_,_,_,_,_,_,z,_,_,_,_,_,_,_,_,_,_,_,_,_,_,_,_⟩:=HX4.out W hW
     exact z
    have Hrt0_1:Hid (∀ W,Below (w6).heap.size w6 W->t.rd W (W).heap.size (.slice A0 t.es.length n0) (.slice B0 t.ks.length m0)):=fun W hW=>by
     obtain⟨_,_,_,_,_,_,_,_,_,_,_,_,_,_,_,_,_,_,_,_,_,_,_,_,_,_,_,_,_,_,z,_,_,_,_,_,_⟩:=HX4.out W hW
     exact z
    have Hrc0_1:Hid (∀ W,Below (w6).heap.size w6 W->SlP W (W).heap.size 3 SpE (.slice D0 tc.length k0) tc):=fun W hW=>by
     obtain⟨_,_,_,_,_,_,_,_,_,_,_,_,_,_,_,_,_,_,_,_,_,_,_,_,_,_,_,_,_,_,_,z,_,_,_,_,_⟩:=HX4.out W hW
     exact z
    have Hro1_1:Hid (∀ W,Below (w6).heap.size w6 W->OpL W (.slice A1 l.length n1) l):=fun W hW=>by
     obtain⟨_,_,_,_,_,_,_,_,_,_,_,_,_,_,_,_,_,_,_,_,_,_,_,_,_,_,_,_,_,_,_,_,z,_,_,_,_⟩:=HX4.out W hW
     exact z
    have Hrl2_1:Hid (∀ W,Below (w6).heap.size w6 W->SlP W (W).heap.size 1 StE (.slice A2 p.length n2) p):=fun W hW=>by
     obtain⟨_,_,_,_,_,_,_,_,_,_,_,_,_,_,_,_,_,_,_,_,_,_,_,_,_,_,_,_,_,_,_,_,_,z,_,_,_⟩:=HX4.out W hW
     exact z
    have HS_1:Hid (∀ W,Below (w6).heap.size w6 W->(w6).heap.size<=W.heap.size):=fun W hW=>by
     have:=hW.size
     first|omega|(simp at this;omega)
    have hsb1:=HS_1.out _ (Below.refl _ _)
    clear ro_q rl_u rl_v rx_t rt_g rc_g rt_n rc_n ro_n hB rt0 rc0 ro1 rl2
    go_region_held3 (fun W=>(W).cell? ⟨w5.heap.size,0,none⟩=some (.int .i64 V.kind)/\(W).cell? ⟨w5.heap.size,1,none⟩=some (.bool V.on)/\(W).cell? ⟨w5.heap.size,2,none⟩=some (.int .i64 V.n)/\(W).cell? ⟨w5.heap.size,3,none⟩=some (.slice D5x V.l.length k5x)/\(W).cell? ⟨w4.heap.size,0,none⟩=some (.int .i64 V.kind)/\(W).cell? ⟨w4.heap.size,1,none⟩=some (.bool V.on)/\(W).cell? ⟨w4.heap.size,2,none⟩=some (.int .i64 V.n)/\(W).cell? ⟨w4.heap.size,3,none⟩=some (.slice D4x V.l.length k4x)/\(W).cell? ⟨w3.heap.size,0,none⟩=some (.slice Ag t.es.length ng)/\(W).cell? ⟨w3.heap.size,1,none⟩=some (.slice Bg t.ks.length mg)/\(W).cell? ⟨w3.heap.size,2,none⟩=some (.slice Cg tc.length kg)/\(W).cell? ⟨w3.heap.size,3,none⟩=some (.slice Ao O.length no)/\(W).cell? ⟨w3.heap.size,4,none⟩=some (.slice An NT.es.length nn)/\(W).cell? ⟨w3.heap.size,5,none⟩=some (.slice Bn NT.ks.length mn)/\(W).cell? ⟨w3.heap.size,6,none⟩=some (.slice Cn NC.length kn)/\(W).cell? ⟨w.heap.size,0,none⟩=some (.slice A0 t.es.length n0)/\(W).cell? ⟨w.heap.size,1,none⟩=some (.slice B0 t.ks.length m0)/\(W).cell? ⟨w.heap.size,2,none⟩=some (.slice D0 tc.length k0))
     (first|go_keep|exact HK1.out _ hbr9.out|exact HK1.out _ (hbr9.out.trans (by go_grown))|exact HK1.out _ hbr8.out|exact HK1.out _ (hbr8.out.trans (by go_grown))|exact HK1.out _ hbr7.out|exact HK1.out _ (hbr7.out.trans (by go_grown))|exact HK1.out _ (((hbr9.out.setCell (by first|(simp;done)|(simp;omega)) _).setCell (by first|(simp;done)|(simp;omega)) _).setCell (by first|(simp;done)|(simp;omega)) _)|exact HK1.out _ (by go_grown)|fail)
     (first
      |(go_at_call 12;go_loud ((refine (qXi t t tc tc _ _ _ _ _ _ _ (HRg.out _ (by go_grown)) (Hrt0_1.out _ (hbr8.out.trans (by go_grown))) (HLg.out _ (by go_grown)) (Hrc0_1.out _ (hbr8.out.trans (by go_grown)))).mono ?_);rw[qUi];rintro e w9 ⟨rfl,hb⟩;have hbr9:Hid (Below (w6).heap.size w6 w9):=hid (Below.trans (hbr8.out.trans (by go_grown)) (hb.mono (by first|omega|(simp;done)|(simp;omega))));have hsr9:=HS_1.out _ hbr9.out;have hch8_9:Hid (Below w8.heap.size w8 w9):=hid (Below.trans (by go_grown) (hb.mono (by first|omega|(simp;done)|(simp;omega))));have hch7_9:Hid (Below w7.heap.size w7 w9):=hid (hch7_8.out.trans (hch8_9.out.mono hch7_8.out.size));clear hb))
      |(go_at_call 25;go_loud ((refine (qQ4 (Hrx_t_1.out _ (hbr7.out.trans (by go_grown))) HCR.out (by show t.sz<=_;omega) (by show tc.length<=_;omega)).mono ?_);rintro e w8 ⟨xe8,xk8,xc8,rfl,hrd8,hsl8,hb⟩;have hbr8:Hid (Below (w6).heap.size w6 w8):=hid (Below.trans (hbr7.out.trans (by go_grown)) (hb.mono (by first|omega|(simp;done)|(simp;omega))));have hsr8:=HS_1.out _ hbr8.out;have hch7_8:Hid (Below w7.heap.size w7 w8):=hid (Below.trans (by go_grown) (hb.mono (by first|omega|(simp;done)|(simp;omega))));simp only at hrd8 hsl8;obtain⟨Ar8,nr8,Br8,mr8,hv1,hv2⟩:=Qk hrd8;subst hv1;subst hv2;obtain⟨Dr8,kr8,hv3⟩:=hsl8.shape;subst hv3;have HR8:=hid hrd8;have HL8:=hid hsl8;clear hrd8 hsl8;have HRg:Hid (∀ W,Below w8.heap.size w8 W->t.rd W W.heap.size (.slice Ar8 t.es.length nr8) (.slice Br8 t.ks.length mr8)):=fun W hW=>Zu HR8.out (fun b hb=>hb.2) hW;have HLg:Hid (∀ W,Below w8.heap.size w8 W->SlP W W.heap.size 3 SpE (.slice Dr8 tc.length kr8) tc):=fun W hW=>HL8.out.slp (fun b hb=>hb.2) hW;clear hb))
      |(go_at_call 24;go_loud ((refine (qXc V V _ _ _ (Hrl_v_1.out _ (by go_grown)) (Hrl_u_1.out _ (by go_grown))).mono ?_);rw[qUf];rintro e w7 ⟨rfl,hb⟩;have hbr7:Hid (Below (w6).heap.size w6 w7):=hid (Below.trans (by go_grown) (hb.mono (by first|omega|(simp;done)|(simp;omega))));have hsr7:=HS_1.out _ hbr7.out;clear hb)))
    all_goals (
     clear hs_b4 hs_u c0_u c1_u c2_u c3_u hs_v c0_v c1_v c2_v c3_v hs_t c0_t c1_t c2_t c3_t c4_t c5_t c6_t hs c00 c01 c02
     obtain⟨hs_b4,ro_q,hs_u,rl_u,c0_u,c1_u,c2_u,c3_u,hs_v,rl_v,c0_v,c1_v,c2_v,c3_v,hs_t,rx_t,rt_g,rc_g,rt_n,rc_n,ro_n,c0_t,c1_t,c2_t,c3_t,c4_t,c5_t,c6_t,hB,hs,rt0,rc0,ro1,rl2,c00,c01,c02⟩:=HX4.out _ hbr9.out
     go_wp2_with fail
     have HLB:=hid hbr9.out
     clear hs_b4 ro_q hs_u rl_u c0_u c1_u c2_u c3_u hs_v rl_v c0_v c1_v c2_v c3_v hs_t rx_t rt_g rc_g rt_n rc_n ro_n c0_t c1_t c2_t c3_t c4_t c5_t c6_t hB hs rt0 rc0 ro1 rl2 c00 c01 c02
     go_loopw [86] (fun i wr=>∃ k:Nat,k<=O.length/\i=.int .i64 k/\Below (w6).heap.size w6 wr) (fun i _=>O.length-(intOf i).toNat)
     case atStart=>exact⟨0,by omega,rfl,HLB.out⟩
     case round=>
      obtain⟨k,hk,rfl,hbr⟩:=hrel
      have HBR:=hid hbr
      clear hbr
      obtain⟨hs_b4,ro_q,hs_u,rl_u,c0_u,c1_u,c2_u,c3_u,hs_v,rl_v,c0_v,c1_v,c2_v,c3_v,hs_t,rx_t,rt_g,rc_g,rt_n,rc_n,ro_n,c0_t,c1_t,c2_t,c3_t,c4_t,c5_t,c6_t,hB,hs,rt0,rc0,ro1,rl2,c00,c01,c02⟩:=HX4.out _ HBR.out
      by_cases hlt:k<O.length
      ·skip
       have hki:(k:Int)<(O.length:Int):=by omega
       obtain⟨x,hx⟩:∃ x,O[k]?=some x:=⟨_,List.getElem?_eq_getElem hlt⟩
       obtain⟨b1,o1,A1x,c1x,hA1,hb1,hp1,_,hu1⟩:=OpL.at ro_q hx
       subst hA1
       obtain⟨b2,o2,A2x,c2x,hA2,hb2,hp2,_,hu2⟩:=OpL.at ro_n hx
       subst hA2
       have HU1:=hid hu1
       have HU2:=hid hu2
       have HP1:=hid hp1
       have HP2:=hid hp2
       clear hu1 hu2 hp1 hp2 hx
       clear hs_b4 ro_q hs_u rl_u c0_u c1_u c2_u c3_u hs_v rl_v c0_v c1_v c2_v c3_v hs_t rx_t rt_g rc_g rt_n rc_n ro_n c0_t c1_t c2_t c3_t c4_t c5_t c6_t hB hs rt0 rc0 ro1 rl2 c00 c01 c02
       have HX5:Hid (∀ W,Below (wr).heap.size wr W->((wr).heap.size<=(W).heap.size/\SlP W (W).heap.size 1 StE (.slice A1x x.path.length c1x) x.path/\SlP W (W).heap.size 1 StE (.slice A2x x.path.length c2x) x.path/\(W).cell? ⟨b1,o1+k*4,none⟩=some (.slice A1x x.path.length c1x)/\(W).cell? ⟨b1,o1+k*4+1,none⟩=some (.int .i64 x.act)/\(W).cell? ⟨b1,o1+k*4+2,none⟩=some (.string x.s)/\(W).cell? ⟨b1,o1+k*4+3,none⟩=some (.int .i64 x.n)/\(W).cell? ⟨b2,o2+k*4,none⟩=some (.slice A2x x.path.length c2x)/\(W).cell? ⟨b2,o2+k*4+1,none⟩=some (.int .i64 x.act)/\(W).cell? ⟨b2,o2+k*4+2,none⟩=some (.string x.s)/\(W).cell? ⟨b2,o2+k*4+3,none⟩=some (.int .i64 x.n)/\(w6).heap.size<=(W).heap.size/\OpL W (.slice (some ⟨b1,o1,none⟩) O.length nq) O/\w5.heap.size+1<=(W).heap.size/\SlP W (W).heap.size 1 StE (.slice D5x V.l.length k5x) V.l/\(W).cell? ⟨w5.heap.size,0,none⟩=some (.int .i64 V.kind)/\(W).cell? ⟨w5.heap.size,1,none⟩=some (.bool V.on)/\(W).cell? ⟨w5.heap.size,2,none⟩=some (.int .i64 V.n)/\(W).cell? ⟨w5.heap.size,3,none⟩=some (.slice D5x V.l.length k5x)/\w4.heap.size+1<=(W).heap.size/\SlP W (W).heap.size 1 StE (.slice D4x V.l.length k4x) V.l/\(W).cell? ⟨w4.heap.size,0,none⟩=some (.int .i64 V.kind)/\(W).cell? ⟨w4.heap.size,1,none⟩=some (.bool V.on)/\(W).cell? ⟨w4.heap.size,2,none⟩=some (.int .i64 V.n)/\(W).cell? ⟨w4.heap.size,3,none⟩=some (.slice D4x V.l.length k4x)/\w3.heap.size+1<=(W).heap.size/\TxB W g okp v vo (t,tc) (NT,NC) O/\t.rd W (W).heap.size (.slice Ag t.es.length ng) (.slice Bg t.ks.length mg)/\SlP W (W).heap.size 3 SpE (.slice Cg tc.length kg) tc/\NT.rd W (W).heap.size (.slice An NT.es.length nn) (.slice Bn NT.ks.length mn)/\SlP W (W).heap.size 3 SpE (.slice Cn NC.length kn) NC/\OpL W (.slice (some ⟨b2,o2,none⟩) O.length no) O/\(W).cell? ⟨w3.heap.size,0,none⟩=some (.slice Ag t.es.length ng)/\(W).cell? ⟨w3.heap.size,1,none⟩=some (.slice Bg t.ks.length mg)/\(W).cell? ⟨w3.heap.size,2,none⟩=some (.slice Cg tc.length kg)/\(W).cell? ⟨w3.heap.size,3,none⟩=some (.slice (some ⟨b2,o2,none⟩) O.length no)/\(W).cell? ⟨w3.heap.size,4,none⟩=some (.slice An NT.es.length nn)/\(W).cell? ⟨w3.heap.size,5,none⟩=some (.slice Bn NT.ks.length mn)/\(W).cell? ⟨w3.heap.size,6,none⟩=some (.slice Cn NC.length kn)/\Below w.heap.size w W/\w.heap.size+1<=(W).heap.size/\t.rd W (W).heap.size (.slice A0 t.es.length n0) (.slice B0 t.ks.length m0)/\SlP W (W).heap.size 3 SpE (.slice D0 tc.length k0) tc/\OpL W (.slice A1 l.length n1) l/\SlP W (W).heap.size 1 StE (.slice A2 p.length n2) p/\(W).cell? ⟨w.heap.size,0,none⟩=some (.slice A0 t.es.length n0)/\(W).cell? ⟨w.heap.size,1,none⟩=some (.slice B0 t.ks.length m0)/\(W).cell? ⟨w.heap.size,2,none⟩=some (.slice D0 tc.length k0))):=fun W hW=>
        ⟨hW.size,HP1.out.imp hW hW.size (fun _ _ _ h=>h),HP2.out.imp hW hW.size (fun _ _ _ h=>h),(HU1.out W (hW.block _ hb1)).1,(HU1.out W (hW.block _ hb1)).2.1,(HU1.out W (hW.block _ hb1)).2.2.1,(HU1.out W (hW.block _ hb1)).2.2.2,(HU2.out W (hW.block _ hb2)).1,(HU2.out W (hW.block _ hb2)).2.1,(HU2.out W (hW.block _ hb2)).2.2.1,(HU2.out W (hW.block _ hb2)).2.2.2,HX4.out W (HBR.out.trans (hW.mono (by have:=Below.size HBR.out;first|omega|(simp at this ⊢;omega))))⟩
       obtain⟨hs_b5,rl_p1,rl_p2,e0_1,e1_1,e2_1,e3_1,e0_2,e1_2,e2_2,e3_2,hs_b4,ro_q,hs_u,rl_u,c0_u,c1_u,c2_u,c3_u,hs_v,rl_v,c0_v,c1_v,c2_v,c3_v,hs_t,rx_t,rt_g,rc_g,rt_n,rc_n,ro_n,c0_t,c1_t,c2_t,c3_t,c4_t,c5_t,c6_t,hB,hs,rt0,rc0,ro1,rl2,c00,c01,c02⟩:=HX5.out _ (Below.refl _ _)
       go_upto_region 14 with (fail)
       have HK2:Hid (∀ W,Below (wr).heap.size wr W->((W).cell? ⟨b1,o1+k*4,none⟩=some (.slice A1x x.path.length c1x)/\(W).cell? ⟨b1,o1+k*4+1,none⟩=some (.int .i64 x.act)/\(W).cell? ⟨b1,o1+k*4+2,none⟩=some (.string x.s)/\(W).cell? ⟨b1,o1+k*4+3,none⟩=some (.int .i64 x.n)/\(W).cell? ⟨b2,o2+k*4,none⟩=some (.slice A2x x.path.length c2x)/\(W).cell? ⟨b2,o2+k*4+1,none⟩=some (.int .i64 x.act)/\(W).cell? ⟨b2,o2+k*4+2,none⟩=some (.string x.s)/\(W).cell? ⟨b2,o2+k*4+3,none⟩=some (.int .i64 x.n)/\(W).cell? ⟨w3.heap.size,3,none⟩=some (.slice (some ⟨b2,o2,none⟩) O.length no))):=fun W hW=>by
        obtain⟨_,_,_,z_e0_1,z_e1_1,z_e2_1,z_e3_1,z_e0_2,z_e1_2,z_e2_2,z_e3_2,_,_,_,_,_,_,_,_,_,_,_,_,_,_,_,_,_,_,_,_,_,_,_,_,z_c3_t,_,_,_,_,_,_,_,_,_,_,_,_⟩:=HX5.out W hW
        exact⟨z_e0_1,z_e1_1,z_e2_1,z_e3_1,z_e0_2,z_e1_2,z_e2_2,z_e3_2,z_c3_t⟩
       have Hrl_p1_2:Hid (∀ W,Below (wr).heap.size wr W->SlP W (W).heap.size 1 StE (.slice A1x x.path.length c1x) x.path):=fun W hW=>by
        obtain⟨_,z,_,_,_,_,_,_,_,_,_,_,_,_,_,_,_,_,_,_,_,_,_,_,_,_,_,_,_,_,_,_,_,_,_,_,_,_,_,_,_,_,_,_,_,_,_,_⟩:=HX5.out W hW
        exact z
       have Hrl_p2_2:Hid (∀ W,Below (wr).heap.size wr W->SlP W (W).heap.size 1 StE (.slice A2x x.path.length c2x) x.path):=fun W hW=>by
        obtain⟨_,_,z,_,_,_,_,_,_,_,_,_,_,_,_,_,_,_,_,_,_,_,_,_,_,_,_,_,_,_,_,_,_,_,_,_,_,_,_,_,_,_,_,_,_,_,_,_⟩:=HX5.out W hW
        exact z
       have Hro_q_2:Hid (∀ W,Below (wr).heap.size wr W->OpL W (.slice (some ⟨b1,o1,none⟩) O.length nq) O):=fun W hW=>by
        obtain⟨_,_,_,_,_,_,_,_,_,_,_,_,z,_,_,_,_,_,_,_,_,_,_,_,_,_,_,_,_,_,_,_,_,_,_,_,_,_,_,_,_,_,_,_,_,_,_,_⟩:=HX5.out W hW
        exact z
       have Hrl_u_2:Hid (∀ W,Below (wr).heap.size wr W->SlP W (W).heap.size 1 StE (.slice D5x V.l.length k5x) V.l):=fun W hW=>by
        obtain⟨_,_,_,_,_,_,_,_,_,_,_,_,_,_,z,_,_,_,_,_,_,_,_,_,_,_,_,_,_,_,_,_,_,_,_,_,_,_,_,_,_,_,_,_,_,_,_,_⟩:=HX5.out W hW
        exact z
       have Hrl_v_2:Hid (∀ W,Below (wr).heap.size wr W->SlP W (W).heap.size 1 StE (.slice D4x V.l.length k4x) V.l):=fun W hW=>by
        obtain⟨_,_,_,_,_,_,_,_,_,_,_,_,_,_,_,_,_,_,_,_,z,_,_,_,_,_,_,_,_,_,_,_,_,_,_,_,_,_,_,_,_,_,_,_,_,_,_,_⟩:=HX5.out W hW
        exact z
       have Hrx_t_2:Hid (∀ W,Below (wr).heap.size wr W->TxB W g okp v vo (t,tc) (NT,NC) O):=fun W hW=>by
        obtain⟨_,_,_,_,_,_,_,_,_,_,_,_,_,_,_,_,_,_,_,_,_,_,_,_,_,_,z,_,_,_,_,_,_,_,_,_,_,_,_,_,_,_,_,_,_,_,_,_⟩:=HX5.out W hW
        exact z
       have Hrt_g_2:Hid (∀ W,Below (wr).heap.size wr W->t.rd W (W).heap.size (.slice Ag t.es.length ng) (.slice Bg t.ks.length mg)):=fun W hW=>by
        obtain⟨_,_,_,_,_,_,_,_,_,_,_,_,_,_,_,_,_,_,_,_,_,_,_,_,_,_,_,z,_,_,_,_,_,_,_,_,_,_,_,_,_,_,_,_,_,_,_,_⟩:=HX5.out W hW
        exact z
       have Hrc_g_2:Hid (∀ W,Below (wr).heap.size wr W->SlP W (W).heap.size 3 SpE (.slice Cg tc.length kg) tc):=fun W hW=>by
        obtain⟨_,_,_,_,_,_,_,_,_,_,_,_,_,_,_,_,_,_,_,_,_,_,_,_,_,_,_,_,z,_,_,_,_,_,_,_,_,_,_,_,_,_,_,_,_,_,_,_⟩:=HX5.out W hW
        exact z
       have Hrt_n_2:Hid (∀ W,Below (wr).heap.size wr W->NT.rd W (W).heap.size (.slice An NT.es.length nn) (.slice Bn NT.ks.length mn)):=fun W hW=>by
        obtain⟨_,_,_,_,_,_,_,_,_,_,_,_,_,_,_,_,_,_,_,_,_,_,_,_,_,_,_,_,_,z,_,_,_,_,_,_,_,_,_,_,_,_,_,_,_,_,_,_⟩:=HX5.out W hW
        exact z
       have Hrc_n_2:Hid (∀ W,Below (wr).heap.size wr W->SlP W (W).heap.size 3 SpE (.slice Cn NC.length kn) NC):=fun W hW=>by
        obtain⟨_,_,_,_,_,_,_,_,_,_,_,_,_,_,_,_,_,_,_,_,_,_,_,_,_,_,_,_,_,_,z,_,_,_,_,_,_,_,_,_,_,_,_,_,_,_,_,_⟩:=HX5.out W hW
        exact z
       have Hro_n_2:Hid (∀ W,Below (wr).heap.size wr W->OpL W (.slice (some ⟨b2,o2,none⟩) O.length no) O):=fun W hW=>by
        obtain⟨_,_,_,_,_,_,_,_,_,_,_,_,_,_,_,_,_,_,_,_,_,_,_,_,_,_,_,_,_,_,_,z,_,_,_,_,_,_,_,_,_,_,_,_,_,_,_,_⟩:=HX5.out W hW
        exact z
       have Hrt0_2:Hid (∀ W,Below (wr).heap.size wr W->t.rd W (W).heap.size (.slice A0 t.es.length n0) (.slice B0 t.ks.length m0)):=fun W hW=>by
        obtain⟨_,_,_,_,_,_,_,_,_,_,_,_,_,_,_,_,_,_,_,_,_,_,_,_,_,_,_,_,_,_,_,_,_,_,_,_,_,_,_,_,_,z,_,_,_,_,_,_⟩:=HX5.out W hW
        exact z
       have Hrc0_2:Hid (∀ W,Below (wr).heap.size wr W->SlP W (W).heap.size 3 SpE (.slice D0 tc.length k0) tc):=fun W hW=>by
        obtain⟨_,_,_,_,_,_,_,_,_,_,_,_,_,_,_,_,_,_,_,_,_,_,_,_,_,_,_,_,_,_,_,_,_,_,_,_,_,_,_,_,_,_,z,_,_,_,_,_⟩:=HX5.out W hW
        exact z
       have Hro1_2:Hid (∀ W,Below (wr).heap.size wr W->OpL W (.slice A1 l.length n1) l):=fun W hW=>by
        obtain⟨_,_,_,_,_,_,_,_,_,_,_,_,_,_,_,_,_,_,_,_,_,_,_,_,_,_,_,_,_,_,_,_,_,_,_,_,_,_,_,_,_,_,_,z,_,_,_,_⟩:=HX5.out W hW
        exact z
       have Hrl2_2:Hid (∀ W,Below (wr).heap.size wr W->SlP W (W).heap.size 1 StE (.slice A2 p.length n2) p):=fun W hW=>by
        obtain⟨_,_,_,_,_,_,_,_,_,_,_,_,_,_,_,_,_,_,_,_,_,_,_,_,_,_,_,_,_,_,_,_,_,_,_,_,_,_,_,_,_,_,_,_,z,_,_,_⟩:=HX5.out W hW
        exact z
       have HS_2:Hid (∀ W,Below (wr).heap.size wr W->(wr).heap.size<=W.heap.size):=fun W hW=>by
        have:=hW.size
        first|omega|(simp at this;omega)
       have hsb2:=HS_2.out _ (Below.refl _ _)
       clear rl_p1 rl_p2 ro_q rl_u c0_u c1_u c2_u c3_u rl_v c0_v c1_v c2_v c3_v rx_t rt_g rc_g rt_n rc_n ro_n c0_t c1_t c2_t c4_t c5_t c6_t hB rt0 rc0 ro1 rl2 c00 c01 c02
       go_region_held3 (fun W=>(W).cell? ⟨b1,o1+k*4,none⟩=some (.slice A1x x.path.length c1x)/\(W).cell? ⟨b1,o1+k*4+1,none⟩=some (.int .i64 x.act)/\(W).cell? ⟨b1,o1+k*4+2,none⟩=some (.string x.s)/\(W).cell? ⟨b1,o1+k*4+3,none⟩=some (.int .i64 x.n)/\(W).cell? ⟨b2,o2+k*4,none⟩=some (.slice A2x x.path.length c2x)/\(W).cell? ⟨b2,o2+k*4+1,none⟩=some (.int .i64 x.act)/\(W).cell? ⟨b2,o2+k*4+2,none⟩=some (.string x.s)/\(W).cell? ⟨b2,o2+k*4+3,none⟩=some (.int .i64 x.n)/\(W).cell? ⟨w3.heap.size,3,none⟩=some (.slice (some ⟨b2,o2,none⟩) O.length no))
        (first|go_keep|exact HK2.out _ hbr10.out|exact HK2.out _ (hbr10.out.trans (by go_grown))|exact HK2.out _ (((hbr10.out.setCell (by first|(simp;done)|(simp;omega)) _).setCell (by first|(simp;done)|(simp;omega)) _).setCell (by first|(simp;done)|(simp;omega)) _)|exact HK2.out _ (by go_grown)|fail)
        (first
         |(go_at_call 26;go_loud ((refine (qKk x _ _ _ (Hrl_p1_2.out _ (by go_grown)) (Hrl_p2_2.out _ (by go_grown))).mono ?_);rintro e w10 ⟨rfl,hb⟩;have hbr10:Hid (Below (wr).heap.size wr w10):=hid (Below.trans (by go_grown) (hb.mono (by first|omega|(simp;done)|(simp;omega))));have hsr10:=HS_2.out _ hbr10.out;clear hb)))
       all_goals (
        clear hs_b5 e0_1 e1_1 e2_1 e3_1 e0_2 e1_2 e2_2 e3_2 hs_b4 hs_u hs_v hs_t c3_t hs
        obtain⟨hs_b5,rl_p1,rl_p2,e0_1,e1_1,e2_1,e3_1,e0_2,e1_2,e2_2,e3_2,hs_b4,ro_q,hs_u,rl_u,c0_u,c1_u,c2_u,c3_u,hs_v,rl_v,c0_v,c1_v,c2_v,c3_v,hs_t,rx_t,rt_g,rc_g,rt_n,rc_n,ro_n,c0_t,c1_t,c2_t,c3_t,c4_t,c5_t,c6_t,hB,hs,rt0,rc0,ro1,rl2,c00,c01,c02⟩:=HX5.out _ hbr10.out
        go_wp2_with fail
        have HBN:=hid (HBR.out.trans (hbr10.out.mono (by have:=HBR.out.size;omega)))
        clear hs_b5 rl_p1 rl_p2 e0_1 e1_1 e2_1 e3_1 e0_2 e1_2 e2_2 e3_2 hs_b4 ro_q hs_u rl_u c0_u c1_u c2_u c3_u hs_v rl_v c0_v c1_v c2_v c3_v hs_t rx_t rt_g rc_g rt_n rc_n ro_n c0_t c1_t c2_t c3_t c4_t c5_t c6_t hB hs rt0 rc0 ro1 rl2 c00 c01 c02
        go_roundw
        case rel=>exact⟨k+1,by omega,by go_num,HBN.out⟩
        case measure=>simp[intOf];omega)
      ·skip
       have hki:¬(k:Int)<(O.length:Int):=by omega
       go_wp2_with fail
       go_ret
       exact⟨rfl,hB⟩)
end Go.Proofs.YtbcoelggdikipaaGreat
namespace Go.Proofs.YtbcoelggdikipaaGreat
open Go.ChangeShapes Go.WideShapes Go.ChangeAt Go.RowKit
def Wt {H:Type}(P:Program)(t:TypeId)(d:DataW H):Prop:=∀ m∈d.weights P t,m<=reachBytes
section
variable {H:Type}{enc:TypeId×Value->H}{w:World}
theorem Wt.field {P:Program}{t:TypeId}{fs:Array Field}{parts:List (DataW H)}(hu:P.underlying t=some (.struct fs))(h:Wt P t (.agg parts)){i:Nat}{f:Field}{d:DataW H}(hf:fs[i]?=some f)(hd:parts[i]?=some d):Wt P f.type d:=fun m hm=>by
 refine h m ?_
 unfold DataW.weights
 rw[hu]
 exact DataW.weights_mem_each (j:=i) (t:=f.type) (d:=d) (by simp[hf]) hd m hm
theorem Wt.all {P:Program}{e:TypeId}:∀ {ds:List (DataW H)}{d:DataW H},d∈ds->∀ m∈d.weights P e,m∈DataW.weightsAll P e ds
 |x :: ds,d,hd,m,hm=>by
  rw[DataW.weightsAll]
  rcases List.mem_cons.1 hd with rfl|hd
  ·exact List.mem_append_left _ hm
  ·exact List.mem_append_right _ (Wt.all hd m hm)
theorem Wt.elem {P:Program}{t e:TypeId}{elems spare:List (DataW H)}(hu:P.underlying t=some (.slice e))(h:Wt P t (.slice elems spare)):(elems.length+spare.length)*P.bytesOf e<=reachBytes/\∀ d∈elems,Wt P e d:=by
 unfold Wt at h
 unfold DataW.weights at h
 rw[hu]at h
 refine⟨h _ (by simp),fun d hd m hm=>h m ?_⟩
 exact List.mem_cons_of_mem _ (List.mem_append_left _ (Wt.all hd m hm))
theorem Jq {n:Int}(h:(Lit.int .i64 n).wf=true):I64 n:=by
 have h1:IntKind.i64.min=-9223372036854775808:=rfl
 have h2:IntKind.i64.max=9223372036854775807:=rfl
 simp only[Lit.wf,Bool.and_eq_true,decide_eq_true_eq]at h
 unfold I64;omega
theorem Y2 {α:Type}{E:α->List Value->Prop}{t e:TypeId}{sz bytes fuel:Nat}{cs:List Value}{x:DataW H×List MemPlace}(hu:Tryz.prog.underlying t=some (.slice e))(hC:Tryz.prog.cellsOf e=sz)(hsz:0<sz)(hB:Tryz.prog.bytesOf e=bytes)(hb:0<bytes)
  (h:DataW.trod enc Tryz.prog w 0 (fun _=>true) true fuel t cs=some x) (hw:Wt Tryz.prog t x.1)
  (hel:∀ n cs y,n<fuel->DataW.trod enc Tryz.prog w 0 (fun _=>true) true n e cs=some y->Wt Tryz.prog e y.1->∃ a,E a cs) :
  ∃ v xs,cs=[v]/\SlP w w.heap.size sz E v xs:=by
 rcases DataW.trod_slice hu h with⟨rfl,rfl⟩|⟨a,len,cap,elems,rest,n,rfl,rfl,rfl,_,hl,hm,hlen,he,hs,_⟩
 ·exact⟨_,[],rfl,SlP.nil⟩
 ·obtain⟨hr,hwe⟩:=Wt.elem hu hw
  rw[hB,List.length_map,List.length_map]at hr
  have hrl:=(hs rfl).1
  have hcap:cap<=Big:=by
   have h1:(elems.length+rest.length)*1<=(elems.length+rest.length)*bytes:=Nat.mul_le_mul_left _ hb
   unfold reachBytes at hr;unfold Big;omega
  have key:∀ i,i<len->∃ (x:α) (c:List Value),E x c/\c.length=sz/\∀ j,j<sz->w.cell? (a.add (i*sz+j))=c[j]?:=fun i hi=>by
   have h1:=he i hi
   have h2:elems[i]?=some elems[i]:=List.getElem?_eq_getElem (by omega)
   rw[h2]at h1
   obtain⟨c,h3,h4⟩:=Option.bind_eq_some_iff.1 h1
   obtain⟨_,h5,h6⟩:=World.cells?_some h3
   obtain⟨x,hx⟩:=hel n c elems[i] (Nat.lt_succ_self n) h4 (hwe _ (List.mem_map.2 ⟨elems[i],List.getElem_mem _,rfl⟩))
   rw[hC]at h5 h6
   exact⟨x,c,hx,h5,fun j hj=>by rw[←Go.Deep.add_add];exact h6 j hj⟩
  rcases Nat.eq_zero_or_pos len with h0|h0
  ·subst h0
   exact⟨_,[],rfl,⟨some a,cap,rfl,Nat.zero_le _,Nat.zero_le _,fun h=>absurd rfl h⟩⟩
  ·obtain⟨x0,c0,_,hc0,hcell0⟩:=key 0 h0
   have hv0:=hcell0 0 hsz
   rw[List.getElem?_eq_getElem (by omega)]at hv0
   obtain⟨b,off,spot⟩:=a
   have hspot:spot=none:=by simpa[Addr.add] using World.cell?_spot hv0
   subst hspot
   have hbl:b<w.heap.size:=by
    have:=World.block_lt_of_cell? w _ hv0
    simpa[Addr.add] using this
   classical
   refine⟨_,(List.range len).map fun i=>if hi:i<len then Classical.choose (key i hi) else x0,rfl,some ⟨b,off,none⟩,cap,by simp,by simp;omega,by simp;omega,fun _=>⟨b,off,rfl,hbl,fun j x hx=>?_⟩⟩
   have hj:j<len:=by have:=(List.getElem?_eq_some_iff.1 hx).1;simpa using this
   rw[List.getElem?_map,List.getElem?_range hj]at hx
   simp only[Option.map_some,dif_pos hj,Option.some.injEq]at hx
   obtain⟨c,h1,h2,h3⟩:=Classical.choose_spec (key j hj)
   rw[hx]at h1
   refine⟨c,h1,h2,fun i u hi=>?_⟩
   have hlt:i<sz:=by have:=(List.getElem?_eq_some_iff.1 hi).1;omega
   have:=h3 i hlt
   rw[hi]at this
   rw[←this]
   congr 1
   simp[Addr.add,Nat.add_assoc]
theorem qJb:Tryz.prog.cellsOf 78=2:=by kernel_rfl
theorem Vd:Tryz.prog.cellsOf 80=4:=by kernel_rfl
theorem Kv:Tryz.prog.cellsOf 25=2:=by kernel_rfl
theorem qJc:Tryz.prog.cellsOf 96=3:=by kernel_rfl
theorem QV:Tryz.prog.cellsOf 9=1/\Tryz.prog.cellsOf 3=1/\Tryz.prog.cellsOf 2=1/\Tryz.prog.cellsOf 22=1/\Tryz.prog.cellsOf 23=1:=by refine⟨?_,?_,?_,?_,?_⟩<;>kernel_rfl
theorem qKl:Tryz.prog.bytesOf 80=40:=by kernel_rfl
theorem zQ6:Tryz.prog.bytesOf 96=64:=by kernel_rfl
theorem zQ7 {fuel:Nat}{cs:List Value}{x:DataW H×List MemPlace}(h:DataW.trod enc Tryz.prog w 0 (fun _=>true) true fuel 78 cs=some x):∃ d:Dt,DtE d cs:=by
 obtain⟨xs,n,rfl,rfl,hl,hx,hf⟩:=DataW.trod_struct Tryz.underlying78 h
 rw[qJb]at hl
 match cs,hl with
 |[c0,c1],_=>
  match xs,hx with
  |[y0,y1],_=>
   have f0:DataW.trod enc Tryz.prog w 0 (fun _=>true) true n 3 (([c0,c1].drop 0).take (Tryz.prog.cellsOf 3))=some y0:=hf 0 _ rfl
   rw[QV.2.1]at f0
   have f1:DataW.trod enc Tryz.prog w 0 (fun _=>true) true n 2 (([c0,c1].drop 1).take (Tryz.prog.cellsOf 2))=some y1:=hf 1 _ rfl
   rw[QV.2.2.1]at f1
   obtain⟨a,e0,_,w0⟩:=DataW.trod_int Tryz.underlying3 (show DataW.trod enc Tryz.prog w 0 (fun _=>true) true n 3 [c0]=some y0 from f0)
   obtain⟨b,e1,_,w1⟩:=DataW.trod_int Tryz.underlying2 (show DataW.trod enc Tryz.prog w 0 (fun _=>true) true n 2 [c1]=some y1 from f1)
   simp at e0 e1
   subst e0;subst e1
   exact⟨⟨a,b⟩,rfl,Jq w0,Jq w1⟩
theorem qKm {fuel:Nat}{cs:List Value}{x:DataW H×List MemPlace}(h:DataW.trod enc Tryz.prog w 0 (fun _=>true) true fuel 80 cs=some x)(hw:Wt Tryz.prog 80 x.1):∃ e:En,EnE e cs:=by
 obtain⟨xs,n,rfl,rfl,hl,hx,hf⟩:=DataW.trod_struct Tryz.underlying80 h
 rw[Vd]at hl
 match cs,hl with
 |[c0,c1,c2,c3],_=>
  match xs,hx with
  |[y0,y1,y2],_=>
   have f0:DataW.trod enc Tryz.prog w 0 (fun _=>true) true n 78 (([c0,c1,c2,c3].drop 0).take (Tryz.prog.cellsOf 78))=some y0:=hf 0 _ rfl
   rw[qJb]at f0
   have f1:DataW.trod enc Tryz.prog w 0 (fun _=>true) true n 9 (([c0,c1,c2,c3].drop 2).take (Tryz.prog.cellsOf 9))=some y1:=hf 1 _ rfl
   rw[QV.1]at f1
   have f2:DataW.trod enc Tryz.prog w 0 (fun _=>true) true n 2 (([c0,c1,c2,c3].drop 3).take (Tryz.prog.cellsOf 2))=some y2:=hf 2 _ rfl
   rw[QV.2.2.1]at f2
   obtain⟨d,ed,od⟩:=zQ7 (show DataW.trod enc Tryz.prog w 0 (fun _=>true) true n 78 [c0,c1]=some y0 from f0)
   obtain⟨s,e1,hy1,_⟩:=DataW.trod_string Tryz.underlying9 (show DataW.trod enc Tryz.prog w 0 (fun _=>true) true n 9 [c2]=some y1 from f1)
   obtain⟨b,e2,_,w2⟩:=DataW.trod_int Tryz.underlying2 (show DataW.trod enc Tryz.prog w 0 (fun _=>true) true n 2 [c3]=some y2 from f2)
   have hs:s.size<=Big:=by
    have:=Wt.field Tryz.underlying80 hw (i:=1) (d:=y1.1) rfl rfl s.size (by rw[hy1];simp[DataW.weights])
    unfold reachBytes at this;unfold Big;omega
   simp at ed e1 e2
   obtain⟨rfl,rfl⟩:=ed
   subst e1;subst e2
   exact⟨⟨d.dc,d.n,s,b⟩,rfl,od.dc,od.n,Jq w2,hs⟩
theorem qUk:∀ (fuel:Nat) (cs:List Value) (x:DataW H×List MemPlace),DataW.trod enc Tryz.prog w 0 (fun _=>true) true fuel 25 cs=some x->Wt Tryz.prog 25 x.1->∃ t ve vk,cs=[ve,vk]/\Tr.rd w w.heap.size t ve vk:=by
 intro fuel
 induction fuel using Nat.strongRecOn with
 |ind fuel ih=>
 intro cs x h hw
 obtain⟨xs,n,rfl,rfl,hl,hx,hf⟩:=DataW.trod_struct Tryz.underlying25 h
 rw[Kv]at hl
 match cs,hl with
 |[c0,c1],_=>
  match xs,hx with
  |[y0,y1],_=>
   have f0:DataW.trod enc Tryz.prog w 0 (fun _=>true) true n 22 (([c0,c1].drop 0).take (Tryz.prog.cellsOf 22))=some y0:=hf 0 _ rfl
   rw[QV.2.2.2.1]at f0
   have f1:DataW.trod enc Tryz.prog w 0 (fun _=>true) true n 23 (([c0,c1].drop 1).take (Tryz.prog.cellsOf 23))=some y1:=hf 1 _ rfl
   rw[QV.2.2.2.2]at f1
   obtain⟨v0,es,e0,h0⟩:=Y2 (E:=EnE) Tryz.underlying22 Vd (by decide) qKl (by decide) (show DataW.trod enc Tryz.prog w 0 (fun _=>true) true n 22 [c0]=some y0 from f0) (Wt.field Tryz.underlying25 hw (i:=0) rfl rfl)
    (fun m cs y _ hy hwy=>qKm hy hwy)
   obtain⟨v1,ks,e1,h1⟩:=Y2 (E:=KdE w w.heap.size) Tryz.underlying23 qJc (by decide) zQ6 (by decide) (show DataW.trod enc Tryz.prog w 0 (fun _=>true) true n 23 [c1]=some y1 from f1) (Wt.field Tryz.underlying25 hw (i:=1) rfl rfl)
    (fun m cs y hm hy hwy=>by
     obtain⟨zs,k,rfl,rfl,hl,hz,hg⟩:=DataW.trod_struct Tryz.underlying96 hy
     rw[qJc]at hl
     match cs,hl with
     |[d0,d1,d2],_=>
      match zs,hz with
      |[z0,z1],_=>
       have g0:DataW.trod enc Tryz.prog w 0 (fun _=>true) true k 9 (([d0,d1,d2].drop 0).take (Tryz.prog.cellsOf 9))=some z0:=hg 0 _ rfl
       rw[QV.1]at g0
       have g1:DataW.trod enc Tryz.prog w 0 (fun _=>true) true k 25 (([d0,d1,d2].drop 1).take (Tryz.prog.cellsOf 25))=some z1:=hg 1 _ rfl
       rw[Kv]at g1
       obtain⟨s,u1,hy1,_⟩:=DataW.trod_string Tryz.underlying9 (show DataW.trod enc Tryz.prog w 0 (fun _=>true) true k 9 [d0]=some z0 from g0)
       obtain⟨t,ve,vk,u2,ht⟩:=ih k (by omega) [d1,d2] z1 (show DataW.trod enc Tryz.prog w 0 (fun _=>true) true k 25 [d1,d2]=some z1 from g1) (Wt.field Tryz.underlying96 hwy (i:=1) rfl rfl)
       have hs:s.size<=Big:=by
        have:=Wt.field Tryz.underlying96 hwy (i:=0) (d:=z0.1) rfl rfl s.size (by rw[hy1];simp[DataW.weights])
        unfold reachBytes at this;unfold Big;omega
       simp at u1 u2
       obtain⟨rfl,rfl⟩:=u2
       subst u1
       exact⟨(s,t),d1,d2,rfl,hs,ht⟩)
   simp at e0 e1
   subst e0;subst e1
   exact⟨.mk es ks,c0,c1,rfl,Qy.2 ⟨h0,h1⟩⟩
theorem XR (hl:laidOutB Tryz.prog=true){W':World}:∀ (ts:List TypeId) (vs:List Value) (ds:List (DataW H)) (ps:List MemPlace),(∀ t∈ts,Tryz.prog.readableRec t=true/\t<Tryz.prog.types.size) ->
  DataW.TrodAll enc Tryz.prog w 0 (fun _=>true) true ts vs ds ps->Below w.heap.size w W'->(∀ x∈ps,x.block<w.heap.size)->DataW.TrodAll enc Tryz.prog W' 0 (fun b=>decide (b<w.heap.size)) true ts vs ds ps
 |[],[],[],ps,_,h,_,_=>h
 |t :: ts,v :: vs,d :: ds,ps,hr,h,hb,hlt=>by
  obtain⟨p,q,h1,h2,rfl⟩:=h
  exact⟨p,q,Below.trod hl (hr t (by simp)).1 (hr t (by simp)).2 h1 hb (fun x hx=>hlt x (List.mem_append_left _ hx)),XR hl ts vs ds q (fun t ht=>hr t (by simp[ht])) h2 hb (fun x hx=>hlt x (List.mem_append_right _ hx)),rfl⟩
end
theorem own:ownKnob Tryz.prog.godebug=none:=by kernel_rfl
theorem zX7:laidOutB Tryz.prog=true:=by kernel_rfl
end Go.Proofs.YtbcoelggdikipaaGreat
