/- What the laws need. No condition but those that each lemma states. -/
import Derived.Test.YtbcoelggdikipaaGreatUy4
import Derived.Test.YtbcoelggdikipaaGreatUy6
import Derived.Test.YtbcoelggdikipaaGreatUy3
import Derived.Test.YtbcoelggdikipaaGreatUy2
import Derived.Test.YtbcoelggdikipaaGreatUy5
set_option maxRecDepth 100000
set_option maxHeartbeats 8000000
set_option linter.unusedSimpArgs false
namespace Go.Proofs.YtbcoelggdikipaaGreat
open Go.RowKit Go.Sort
def cmpR (x y:Int×Int):Int:=cmpI x.1 y.1
theorem Ju (x y:Int×Int):ltOf cmpR x y=decide (x.1<y.1):=Yj x.1 y.1
theorem swoR:SWO (ltOf cmpR) where
 irrefl x:=by rw[Ju];simp
 trans x y z h1 h2:=by rw[Ju]at *;simp at *;omega
 ntrans x y z h1 h2:=by rw[Ju]at *;simp at *;omega
theorem XX (x y:Int×Int)(W:World):Calls Tryz.prog 184 #[.agg #[.int .i64 x.1,.int .i64 x.2],.agg #[.int .i64 y.1,.int .i64 y.2]] W fun e w'=>e=.returned (.int .i64 (cmpR x y))/\∃ q os',w'=grow (W.drewN q) os':=by
 go_enter Tryz.func184,Tryz.ntmps184
 go_wp2_with (go_at_call 185;refine (ZD _ _ _).mono ?_;rintro e w' ⟨rfl,rfl⟩)
 go_ret
 exact⟨rfl,0,_,by rw[alloc_eq_grow,alloc_eq_grow,grow_grow];rfl⟩
theorem VE {l:List (Int×Int)}(h:∀ r∈l,runOk r):QK l:=fun r hr=>by
 have:=h r hr;unfold runOk at this;omega
theorem QQ:∀ (l:List (Int×Int)) (p:Option Int),runsR p l=true->∀ r∈l,runOk r
 |x :: l,p,h,r,hr=>by
  rw[Qo]at h
  rcases List.mem_cons.1 hr with rfl|hr
  ·exact h.1
  ·exact QQ l _ h.2.2 r hr
theorem KF {a b ts:List (Int×Int)}(ha:runsR none a=true)(hb:runsR none b=true)(hp:ts.Perm (a++b))(hs:ts.Pairwise fun x y=>x.1<=y.1):joinL ts=byL a b 0:=by
 have oa:=QQ a none ha
 have ob:=QQ b none hb
 have ot:∀ r∈ts,runOk r:=fun r hr=>by
  rcases List.mem_append.1 (hp.subset hr) with h|h
  ·exact oa r h
  ·exact ob r h
 obtain⟨a1,a2⟩:=YC ot hs
 obtain⟨b1,b2⟩:=ZR 0 oa ob
 refine Yz _ _ none none a1 b1 fun n=>?_
 rw[a2,b2]
 have:hasL ts n=hasL (a++b) n:=by
  unfold hasL
  rw[Bool.eq_iff_iff,List.any_eq_true,List.any_eq_true]
  exact⟨fun ⟨r,h1,h2⟩=>⟨r,hp.subset h1,h2⟩,fun ⟨r,h1,h2⟩=>⟨r,hp.symm.subset h1,h2⟩⟩
 rw[this,Q2]
 simp[inn]
theorem XY (a b:List (Int×Int))(va vb:Value)(w:World)(ha:SlP w w.heap.size 2 RuE va a)(hb:SlP w w.heap.size 2 RuE vb b) :
  Calls Tryz.prog 135 #[va,vb] w fun e w'=>e=.returned (.bool (runsR none a&&runsR none b))/\Below w.heap.size w w':=by
 have HB:=hid hb
 go_enter Tryz.func135,Tryz.ntmps135
 go_wp2_with fail
 refine (Za a va w ha).mono ?_
 rintro e w1 ⟨rfl,hb1⟩
 have hs1:=hb1.size
 cases hr:runsR none a
 ·have HR:=hid hr
  clear hr
  go_wp2_with fail
  go_ret
  exact⟨Qe (by rw[HR.out];rfl),hb1⟩
 ·have HR:=hid hr
  clear hr
  go_wp2_with fail
  refine (Za b vb w1 (HB.out.imp hb1 hs1 fun _ _ _ h=>h)).mono ?_
  rintro e w2 ⟨rfl,hb2⟩
  go_wp2_with fail
  go_ret
  exact⟨Qe (by rw[HR.out];rfl),hb1.trans (hb2.mono hs1)⟩
theorem KG (a b:List (Int×Int))(va vb:Value)(w:World)(ha:SlP w w.heap.size 2 RuE va a)(hb:SlP w w.heap.size 2 RuE vb b)(hra:runsR none a=true)(hrb:runsR none b=true)(hN:a.length<=300000)(hN':b.length<=300000) :
  Calls Tryz.prog 157 #[va,vb] w (RetO w 167 2 (fun _=>RuE) (byL a b 0)):=by
 have HA:=hid ha
 have HB:=hid hb
 have HRA:=hid hra
 have HRB:=hid hrb
 have hor:QK (a++b):=VE fun r hr=>by
  rcases List.mem_append.1 hr with h|h
  ·exact QQ a none hra r h
  ·exact QQ b none hrb r h
 have HOR:=hid hor
 obtain⟨A1,c1,rfl,_⟩:=ha
 obtain⟨A2,c2,rfl,_⟩:=hb
 clear hra hrb hor
 go_enter Tryz.func157,Tryz.ntmps157
 go_wp2_with fail
 refine (XY a b _ _ w HA.out HB.out).mono ?_
 rw[HRA.out,HRB.out]
 rintro e w1 ⟨rfl,hb1⟩
 have hs1:=hb1.size
 go_wp2_with fail
 refine (Kx a b (.slice A1 a.length c1) (.slice A2 b.length c2) w1.heap.size _ (by simp) (by simp) (by simp) (HA.out.imp (hb1.alloc hs1 _) (by simp;omega) fun _ _ _ h=>h) (HB.out.imp (hb1.alloc hs1 _) (by simp;omega) fun _ _ _ h=>h) hN hN').mono ?_
 rintro e w2 ⟨v2,rfl,ho2,hb2⟩
 have hs2:=hb2.size
 simp only[World.size_alloc]at hs2
 have hB2:Below w.heap.size w w2:=(hb1.alloc hs1 _).trans (hb2.mono (by simp;omega))
 have ho2':OwnP w2 (w1.heap.size+1) 167 2 RuE v2 ((a++b).map id):=by rw[List.map_id];exact ho2.mono (by simp)
 go_wp2_with fail
 refine (Yy id cmpR swoR 184 (enters_of Tryz.func184 (by kernel_rfl) rfl) (fun x y W=>XX x y W) (a++b) v2 w2 _ ho2' (by simp;omega) hs2).mono ?_
 rintro e w3 ⟨rfl,ts,hp,hs,ho3,hb3⟩
 rw[List.map_id]at ho3
 have hs3:=hb3.size
 have hJ:=KF HRA.out HRB.out hp (hs.imp fun h=>(YE _ _).1 h)
 have HJ:=hid hJ
 have hlen:ts.length=a.length+b.length:=by rw[hp.length_eq,List.length_append]
 have hsl:=ho3.sl (by rw[hlen];unfold Big;omega)
 have HSL:=hid hsl
 have HTR:Hid (QK ts):=fun r hr=>HOR.out r (hp.subset hr)
 have hl3:ts.length<=900000:=by omega
 clear hp hs ho3 hJ hsl ho2 ho2' hlen
 go_wp2_with fail
 refine (YD ts _ w3 HSL.out hl3 HTR.out).mono ?_
 rintro e w4 ⟨v4,rfl,ho4,hb4⟩
 rw[HJ.out]at ho4
 go_wp2_with fail
 go_ret
 exact⟨_,rfl,ho4.mono (by omega),(hB2.trans (hb3.mono (by omega))).trans (hb4.mono (by omega))⟩
end Go.Proofs.YtbcoelggdikipaaGreat
namespace Go.Proofs.YtbcoelggdikipaaGreat
open Go.RowKit
def Jv (g:Nat)(how:Int):Prop:=
 (∀ args W,(callFunc g args).run Tryz.prog W=.ok (.enter g args) W) /\
 ∀ (a b:List (Int×Int)) (va vb:Value) (W:World),SlP W W.heap.size 2 RuE va a->SlP W W.heap.size 2 RuE vb b->runsR none a=true->runsR none b=true->a.length<=100000->b.length<=100000 ->
  Calls Tryz.prog g #[va,vb] W (RetO W 167 2 (fun _=>RuE) (byL a b how))
def ByA (a b:List Sp)(how:Int)(vs us:Nat->Value)(w1 w2:World)(k:Nat)(wr:World):Prop:=
 ∃ ps:Nat->Value,wr.heap[w1.heap.size]?=some (.cells #[ps 0,ps 1,ps 2,ps 3] 162 (0,0))/\wr.heap[w2.heap.size]?=some (.cells #[us 0,us 1,us 2,us 3] 162 (0,0)) /\
  (∀ j,j<k->OwnP wr (w2.heap.size+1) 167 2 RuE (ps j) (byL (partL a (j:Int)) (partL b (j:Int)) how))/\(∀ j,k<=j->ps j=vs j)/\(∀ blk,w1.heap.size<blk->blk<w2.heap.size->wr.heap[blk]?=w2.heap[blk]?)/\Below w1.heap.size w1 wr
theorem VF (a b:List Sp)(how:Int)(g:Nat)(hf:Jv g how)(va vb:Value)(w:World)(ha:SlP w w.heap.size 3 SpE va a)(hb:SlP w w.heap.size 3 SpE vb b)(hra:Qk a=true)(hrb:Qk b=true)(hN:a.length<=20000)(hN':b.length<=20000) :
  Calls Tryz.prog 93 #[va,vb,.func (.func g) #[] #[]] w (RetO w 45 3 (fun _=>SpE) (ctxBy a b how)):=by
 obtain⟨eg,hf⟩:=hf
 have HA:=hid ha
 have HB:=hid hb
 obtain⟨A1,c1,rfl,_⟩:=ha
 obtain⟨A2,c2,rfl,_⟩:=hb
 go_enter Tryz.func93,Tryz.ntmps93
 go_wp2_with fail
 refine (ZG a _ w HA.out (by omega)).mono ?_
 rintro e w1 ⟨vs,rfl,hsl,hb1⟩
 have hs1:=hb1.size
 rw[hra]
 simp only[hra,if_true]at hsl
 obtain⟨B0,m0,g0,_⟩:=hsl 0 (by omega)
 obtain⟨B1,m1,g1,_⟩:=hsl 1 (by omega)
 obtain⟨B2,m2,g2,_⟩:=hsl 2 (by omega)
 obtain⟨B3,m3,g3,_⟩:=hsl 3 (by omega)
 have HVS:=hid (fun i (hi:i<4)=>(hsl i hi).slp (fun b hb=>hb.2) (Below.refl _ w1))
 have G0:=hid g0
 have G1:=hid g1
 have G2:=hid g2
 have G3:=hid g3
 simp only[g0,g1,g2,g3]
 clear hsl g0 g1 g2 g3
 go_wp2_with fail
 refine (ZG b _ _ (HB.out.imp (hb1.alloc hs1 _) (by simp;omega) fun _ _ _ h=>h) (by omega)).mono ?_
 rintro e w2 ⟨us,rfl,hsl,hb2⟩
 have hs2:=hb2.size
 simp only[World.size_alloc]at hs2
 rw[hrb]
 simp only[hrb,if_true]at hsl
 obtain⟨D0,n0,k0,_⟩:=hsl 0 (by omega)
 obtain⟨D1,n1,k1,_⟩:=hsl 1 (by omega)
 obtain⟨D2,n2,k2,_⟩:=hsl 2 (by omega)
 obtain⟨D3,n3,k3,_⟩:=hsl 3 (by omega)
 have HUS:=hid hsl
 have K0:=hid k0
 have K1:=hid k1
 have K2:=hid k2
 have K3:=hid k3
 simp only[k0,k1,k2,k3]
 clear hsl k0 k1 k2 k3
 have hp2:=hid ((hb2.block w1.heap.size (by simp)).trans (Qg rfl))
 have hB2:Below w1.heap.size w1 w2:=((Below.refl _ w1).alloc (Nat.le_refl _) _).trans (hb2.mono (by simp))
 go_wp2_with fail
 go_loopw [28] (fun i wr=>∃ k:Nat,k<=4/\i=.int .i64 k/\ByA a b how vs us w1 w2 k wr) (fun i _=>4-(intOf i).toNat)
 case atStart=>
  refine⟨0,by omega,rfl,vs,?_,?_,fun j hj=>absurd hj (Nat.not_lt_zero _),fun _ _=>rfl,fun blk _ hb=>Qh hb,hB2.alloc (by omega) _⟩
  ·rw[Qh (by omega),G0.out,G1.out,G2.out,G3.out];exact hp2.out
  ·rw[Qg rfl,K0.out,K1.out,K2.out,K3.out];rfl
 case round=>
  obtain⟨k,hk,rfl,ps,hpa,hqa,hpo,hpv,hkp,hbr⟩:=hrel
  have hsz:=hbr.size
  have hp3:w1.heap.size<wr.heap.size:=(Array.getElem?_eq_some_iff.1 hpa).1
  have hq3:w2.heap.size<wr.heap.size:=(Array.getElem?_eq_some_iff.1 hqa).1
  by_cases hk4:k<4
  ·have hki:(k:Int)<4:=by omega
   have hla:=Qu a k
   have hlb:=Qu b k
   have hq2:w2.heap.size+1<=wr.heap.size:=by omega
   have HSA:Hid (SlP wr.drew wr.drew.heap.size 2 RuE (vs k) (partL a k)):=(HVS.out k hk4).imp hbr.drew hsz fun _ _ _ h=>h
   have HSB:Hid (SlP wr.drew wr.drew.heap.size 2 RuE (us k) (partL b k)):=Xe.2 ((HUS.out k hk4).up (w':=wr.drew) (fun blk hb=>hkp blk (by have:=hb.1;simp only[World.size_alloc]at this;omega) hb.2) (fun blk hb=>by have:=hb.2;show blk<wr.heap.size;omega) (fun _ _ _ h=>h))
   have hcall:=hf (partL a k) (partL b k) (vs k) (us k) wr.drew HSA.out HSB.out (QT hra hk4) (QT hrb hk4) (by omega) (by omega)
   have hpc:wr.cell? ⟨w1.heap.size,k,none⟩=some (vs k):=by rw[Qa hpa,QP ps hk4,hpv k (Nat.le_refl _)]
   have hqc:wr.cell? ⟨w2.heap.size,k,none⟩=some (us k):=(Qa hqa).trans (QP us hk4)
   have HPA:=hid hpa
   have HQA:=hid hqa
   have HPO:=hid hpo
   have HPV:=hid hpv
   have HKP:=hid hkp
   have HCALL:=hid hcall
   clear hpa hqa hpo hpv hkp hf hcall
   go_wp2_with fail
   refine QV (S:=fun w'=>w'.cell? ⟨w1.heap.size,k,none⟩=some (vs k)/\w'.cell? ⟨w2.heap.size,k,none⟩=some (us k)) 10 (by kernel_rfl) (by kernel_rfl) ?_
   simp only[List.take_succ_cons,List.take_zero,List.drop_succ_cons,List.drop_zero]
   have hHeld:(fun w':World=>w'.cell? ⟨w1.heap.size,k,none⟩=some (vs k)/\w'.cell? ⟨w2.heap.size,k,none⟩=some (us k)) wr.drew:=by go_keep
   refine wpAnyH_take (i:=0) (oi:=_) (v:=?v0) rfl (by kernel_rfl) (by kernel_rfl) (by kernel_rfl) (fun _ _ _ h=>h) (Or.inl ⟨by rfl,?h0⟩) (by assumption) ?_
   case h0=>(intro w hSw;(try dsimp only at hSw);go_simp;(try with_reducible rfl))
   simp only[Act.put,List.setIfInBounds_toArray]
   refine wpAnyH_take (i:=1) (oi:=_) (v:=?v1) rfl (by kernel_rfl) (by kernel_rfl) (by kernel_rfl) (fun _ _ _ h=>h) (Or.inl ⟨by rfl,?h1⟩) (by assumption) ?_
   case h1=>(intro w hSw;(try dsimp only at hSw);go_simp;(try with_reducible rfl))
   simp only[Act.put,List.setIfInBounds_toArray]
   refine wpAnyH_take (i:=2) (oi:=_) (v:=?v2) rfl (by kernel_rfl) (by kernel_rfl) (by kernel_rfl) (fun _ _ _ h=>h) (Or.inl ⟨by rfl,?h2⟩) (by assumption) ?_
   case h2=>(intro w hSw;(try dsimp only at hSw);go_simp;(try with_reducible rfl))
   simp only[Act.put,List.setIfInBounds_toArray]
   refine wpAnyH_take (i:=3) (oi:=_) (v:=?v3) rfl (by kernel_rfl) (by kernel_rfl) (by kernel_rfl) (fun _ _ _ h=>h) (Or.inl ⟨by rfl,?h3⟩) (by assumption) ?_
   case h3=>(intro w hSw;(try dsimp only at hSw);go_simp;(try with_reducible rfl))
   simp only[Act.put,List.setIfInBounds_toArray]
   refine wpAnyH_take (i:=4) (oi:=_) (v:=?v4) rfl (by kernel_rfl) (by kernel_rfl) (by kernel_rfl) (fun _ _ _ h=>h) (Or.inl ⟨by rfl,?h4⟩) (by assumption) ?_
   case h4=>(intro w hSw;(try dsimp only at hSw);go_simp;(try with_reducible rfl))
   simp only[Act.put,List.setIfInBounds_toArray]
   refine wpAnyH_take (i:=5) (oi:=_) (v:=?v5) rfl (by kernel_rfl) (by kernel_rfl) (by kernel_rfl) (fun _ _ _ h=>h) (Or.inl ⟨by rfl,?h5⟩) (by assumption) ?_
   case h5=>(intro w hSw;(try dsimp only at hSw);go_simp;(try with_reducible rfl))
   simp only[Act.put,List.setIfInBounds_toArray]
   refine wpAnyH_take (i:=6) (oi:=_) (v:=?v6) rfl (by kernel_rfl) (by kernel_rfl) (by kernel_rfl) (fun _ _ _ h=>h) (Or.inl ⟨by rfl,?h6⟩) (by assumption) ?_
   case h6=>(intro w hSw;(try dsimp only at hSw);go_simp;(try with_reducible rfl))
   simp only[Act.put,List.setIfInBounds_toArray]
   refine wpAnyH_take (i:=7) (oi:=_) (v:=?v7) rfl (by kernel_rfl) (by kernel_rfl) (by kernel_rfl) (fun _ _ _ h=>h) (Or.inl ⟨by rfl,?h7⟩) (by assumption) ?_
   case h7=>(intro w hSw;(try dsimp only at hSw);go_simp;(try with_reducible rfl))
   simp only[Act.put,List.setIfInBounds_toArray]
   refine wpAnyH_ready (rs:=[8]) (by kernel_rfl) (by simp) ?_
   refine AllReadyH.cons (o:=_) rfl (fun K hK=>?_) AllReadyH.nil
   go_simp
   refine HCALL.out.mono ?_
   rintro e w3 ⟨v3,rfl,ho3,hb3⟩
   obtain⟨A3,c3,rfl⟩:=ho3.shape
   have hb3':Below wr.heap.size wr w3:=(Below.refl _ wr).drew.trans hb3
   have hp4:=(hb3'.block w1.heap.size hp3).trans HPA.out
   have hq4:=(hb3'.block w2.heap.size hq3).trans HQA.out
   have hpc3:w3.cell? ⟨w1.heap.size,k,none⟩=some (vs k):=by rw[Qa hp4,QP ps hk4,HPV.out k (Nat.le_refl _)]
   have hqc3:w3.cell? ⟨w2.heap.size,k,none⟩=some (us k):=(Qa hq4).trans (QP us hk4)
   have hf3:w3.frozen? ⟨w1.heap.size,k,none⟩=false:=Qc hp4
   have HP4:=hid hp4
   have HQ4:=hid hq4
   have HO3:=hid ho3
   have HB3:=hid hb3'
   clear hp4 hq4 ho3 hb3 hb3'
   dsimp only
   refine hK.out _ _ ⟨hpc3,hqc3⟩ (fun hHeld8=>?_)
   clear hK K
   simp only[List.setIfInBounds_toArray]
   refine wpAnyH_take (i:=9) (oi:=_) (v:=?v9) rfl (by kernel_rfl) (by kernel_rfl) (by kernel_rfl) (fun _ _ _ h=>h) (Or.inl ⟨by rfl,?h9⟩) (by assumption) ?_
   case h9=>(intro w hSw;(try dsimp only at hSw);go_simp;(try with_reducible rfl))
   simp only[Act.put,List.setIfInBounds_toArray]
   refine wpAnyH_done (by kernel_rfl) ?_ _
   change wpList _ _ _ _ _ _
   go_wp2_with fail
   go_roundw
   case rel=>
    have hs3:=HB3.out.size
    refine⟨k+1,by omega,by go_num,fun j=>if j=k then .slice A3 (byL (partL a k) (partL b k) how).length c3 else ps j,?_,?_,fun j hj=>?_,fun j hj=>?_,fun blk h1 h2=>?_,(hbr.trans (HB3.out.mono hsz)).setCell (Nat.le_refl _) _⟩
    ·rw[Qd HP4.out,Xi ps hk4]
    ·exact (Below.heap_setCell _ _ _ _ (by show w2.heap.size≠w1.heap.size;omega)).trans HQ4.out
    ·by_cases e:j=k
     ·subst e
      simp only[if_true]
      exact (HO3.out.mono (by show _<=wr.heap.size;omega)).setOther (by show w1.heap.size<_;omega) _
     ·simp only[if_neg e]
      exact ((HPO.out j (by omega)).grow HB3.out).setOther (by show w1.heap.size<_;omega) _
    ·show (if j=k then _ else ps j)=vs j
     rw[if_neg (show ¬j=k by omega)];exact HPV.out j (by omega)
    ·exact (Below.heap_setCell _ _ _ _ (by show blk≠w1.heap.size;omega)).trans ((HB3.out.block blk (by omega)).trans (HKP.out blk h1 h2))
   case measure=>simp[intOf];omega
  ·obtain rfl:k=4:=by omega
   have d0:wr.cell? ⟨w1.heap.size,0,none⟩=some (ps 0):=Qa (i:=0) hpa
   have d1:wr.cell? ⟨w1.heap.size,1,none⟩=some (ps 1):=Qa (i:=1) hpa
   have d2:wr.cell? ⟨w1.heap.size,2,none⟩=some (ps 2):=Qa (i:=2) hpa
   have d3:wr.cell? ⟨w1.heap.size,3,none⟩=some (ps 3):=Qa (i:=3) hpa
   have HOL:∀ j:Nat,(byL (partL a (j:Int)) (partL b (j:Int)) how).length<=80001:=fun j=>by
    have:=Xl (partL a (j:Int)) (partL b (j:Int)) how;have:=Qu a (j:Int);have:=Qu b (j:Int);omega
   have HSP:Hid (∀ j,j<4->SlP wr wr.heap.size 2 RuE (ps j) (byL (partL a (j:Int)) (partL b (j:Int)) how)):=fun j hj=>(hpo j hj).sl (by have:=HOL j;unfold Big;omega)
   have HOLH:=hid HOL
   clear hpa hqa hpo hpv hkp HOL
   go_wp2_with fail
   refine (XP (fun j=>byL (partL a (j:Int)) (partL b (j:Int)) how) ps wr HSP.out (fun j _=>by have:=HOLH.out j;show (byL _ _ _).length<=_;omega)).mono ?_
   rintro e w4 ⟨v4,rfl,ho4,hb4⟩
   go_wp2_with fail
   go_ret
   exact⟨_,rfl,ho4.mono (by omega),(hb1.trans (hbr.mono hs1)).trans (hb4.mono (by omega))⟩
theorem KH:Jv 157 0:=
 ⟨enters_of Tryz.func157 (by kernel_rfl) rfl,fun a b va vb W ha hb hra hrb hN hN'=>KG a b va vb W ha hb hra hrb (by omega) (by omega)⟩
theorem KI (a b:List Sp)(va vb:Value)(w:World)(ha:SlP w w.heap.size 3 SpE va a)(hb:SlP w w.heap.size 3 SpE vb b)(hra:Qk a=true)(hrb:Qk b=true)(hN:a.length<=20000)(hN':b.length<=20000) :
  Calls Tryz.prog 112 #[va,vb] w (RetO w 45 3 (fun _=>SpE) (ctxBy a b 0)):=by
 go_enter Tryz.func112,Tryz.ntmps112
 go_wp2_with fail
 refine (VF a b 0 _ KH va vb w ha hb hra hrb hN hN').mono ?_
 rintro e w1 ⟨v,rfl,h⟩
 go_wp2_with fail
 go_ret
 exact⟨v,rfl,h⟩
def cutL:List (Int×Int)->Int->Int->List (Int×Int)
 |[],lo,hi=>if lo<=hi then [(lo,hi)] else []
 |x :: b,lo,hi=>if x.2<lo∨hi<x.1 then cutL b lo hi else if lo<x.1 then (lo,x.1-1) :: cutL b (x.2+1) hi else cutL b (x.2+1) hi
def Qy (a b:List (Int×Int)):List (Int×Int):=a.flatMap fun r=>cutL b r.1 r.2
theorem Jw {a b:List (Int×Int)}{k:Nat}{r:Int×Int}(h:a[k]?=some r):Qy (a.take (k+1)) b=Qy (a.take k) b++cutL b r.1 r.2:=by
 unfold Qy;rw[List.take_add_one,h];simp
theorem VG {b:List (Int×Int)}{k:Nat}{x:Int×Int}(h:b[k]?=some x)(lo hi:Int):cutL (b.drop k) lo hi=(if x.2<lo∨hi<x.1 then cutL (b.drop (k+1)) lo hi else if lo<x.1 then (lo,x.1-1) :: cutL (b.drop (k+1)) (x.2+1) hi else cutL (b.drop (k+1)) (x.2+1) hi):=by
 have hlt:=(List.getElem?_eq_some_iff.1 h).1
 rw[List.drop_eq_getElem_cons hlt,(List.getElem?_eq_some_iff.1 h).2,cutL]
theorem ZU (x:Int×Int)(l:List (Int×Int))(n:Int):hasL (x :: l) n=(inR x n||hasL l n):=rfl
theorem Kb:∀ (l:List (Int×Int)) (q n:Int),runsR (some q) l=true->hasL l n=true->q+1<n
 |x :: l,q,n,h,hn=>by
  rw[Qo]at h
  obtain⟨h1,h2,h3⟩:=h
  unfold runOk at h1
  simp only[okR,decide_eq_true_eq]at h2
  rw[ZU,Bool.or_eq_true]at hn
  rcases hn with hn|hn
  ·simp[inR]at hn;omega
  ·have:=Kb l x.2 n h3 hn;omega
 |[],q,n,_,hn=>by simp[hasL]at hn
theorem qZp {l:List (Int×Int)}{q:Int}(h:runsR (some q) l=true):∀ p:Option Int,(∀ q',p=some q'->q'<=q)->runsR p l=true:=by
 intro p hp
 cases l with
 |nil=>cases p<;>rfl
 |cons x l=>
  rw[Qo]at h ⊢
  refine⟨h.1,?_,h.2.2⟩
  cases p with
  |none=>rfl
  |some q'=>
   have:=hp q' rfl
   have h2:=h.2.1
   simp only[okR,decide_eq_true_eq]at h2 ⊢
   omega
theorem Yk:∀ (b:List (Int×Int)) (p0 p:Option Int) (lo hi:Int) (rest:List (Int×Int)),runsR p0 b=true->okR p lo=true->1<=lo->hi<=1099511627776->(∀ q,p=some q->q<=hi)->runsR (some hi) rest=true->runsR p (cutL b lo hi++rest)=true
 |[],p0,p,lo,hi,rest,_,hp,h1,h2,hq,hr=>by
  rw[cutL]
  split
  ·rename_i hle
   rw[List.singleton_append,Qo]
   exact⟨⟨h1,hle,h2⟩,hp,hr⟩
  ·exact qZp hr p hq
 |x :: b,p0,p,lo,hi,rest,h,hp,h1,h2,hq,hr=>by
  rw[Qo]at h
  obtain⟨hx,_,hb⟩:=h
  unfold runOk at hx
  rw[cutL]
  split
  ·exact Yk b _ p lo hi rest hb hp h1 h2 hq hr
  ·rename_i hc
   split
   ·rename_i hl
    rw[List.cons_append,Qo]
    exact⟨⟨h1,by show lo<=x.1-1;omega,by show x.1-1<=_;omega⟩,hp,Yk b _ _ (x.2+1) hi rest hb (by simp only[okR,decide_eq_true_eq];omega) (by omega) h2 (fun q e=>by cases e;omega) hr⟩
   ·refine Yk b _ p (x.2+1) hi rest hb ?_ (by omega) h2 hq hr
    cases p with
    |none=>rfl
    |some q=>simp only[okR,decide_eq_true_eq]at hp ⊢;omega
theorem Y6 (b:List (Int×Int))(hb:runsR none b=true):∀ (a:List (Int×Int)) (p:Option Int),runsR p a=true->runsR p (Qy a b)=true
 |[],p,_=>by cases p<;>rfl
 |r :: a,p,h=>by
  rw[Qo]at h
  obtain⟨h1,h2,h3⟩:=h
  unfold runOk at h1
  show runsR p (cutL b r.1 r.2++Qy a b)=true
  refine Yk b none p r.1 r.2 _ hb h2 h1.1 h1.2.2 (fun q e=>?_) (Y6 b hb a _ h3)
  subst e
  simp only[okR,decide_eq_true_eq]at h2
  omega
theorem Jx:∀ (b:List (Int×Int)) (p:Option Int) (lo hi n:Int),runsR p b=true->hasL (cutL b lo hi) n=(decide (lo<=n)&&decide (n<=hi)&&!hasL b n)
 |[],p,lo,hi,n,_=>by
  rw[cutL]
  split
  ·simp[hasL,inR]
  ·rw[Bool.eq_iff_iff];simp[hasL];omega
 |x :: b,p,lo,hi,n,h=>by
  rw[Qo]at h
  obtain⟨hx,_,hb⟩:=h
  unfold runOk at hx
  have hgt:=Kb b x.2 n hb
  have e1:=Jx b _ lo hi n hb
  have e2:=Jx b _ (x.2+1) hi n hb
  rw[cutL,ZU]
  have hin:inR x n=(decide (x.1<=n)&&decide (n<=x.2)):=rfl
  split
  ·rw[e1,hin]
   cases hbn:hasL b n<;>rw[Bool.eq_iff_iff]<;>simp<;>omega
  ·split
   ·rw[ZU,e2,Bool.eq_iff_iff]
    simp[inR]
    cases hbn:hasL b n<;>simp[hbn]at hgt ⊢<;>omega
   ·rw[e2,hin]
    cases hbn:hasL b n<;>simp[hbn]at hgt<;>rw[Bool.eq_iff_iff]<;>simp<;>omega
theorem VH (a b:List (Int×Int))(n:Int):hasL (a++b) n=(hasL a n||hasL b n):=by unfold hasL;rw[List.any_append]
theorem XZ (b:List (Int×Int))(hb:runsR none b=true)(n:Int):∀ (a:List (Int×Int)),hasL (Qy a b) n=(hasL a n&&!hasL b n)
 |[]=>by simp[Qy,hasL]
 |r :: a=>by
  show hasL (cutL b r.1 r.2++Qy a b) n=_
  rw[VH,Jx b none _ _ n hb,XZ b hb n a,ZU,Bool.and_or_distrib_right];rfl
theorem Kc {a b:List (Int×Int)}(ha:runsR none a=true)(hb:runsR none b=true):Qy a b=byL a b 2:=by
 have h:=ZR (a:=a) (b:=b) 2 (QQ a none ha) (QQ b none hb)
 refine Yz _ _ none none (Y6 b hb a none ha) h.1 fun n=>?_
 rw[XZ b hb n a,h.2 n]
 simp[inn]
theorem VI (a b:List (Int×Int))(k:Nat):(Qy (a.take k) b).length<=(Qy a b).length:=by
 have h:Qy a b=Qy (a.take k) b++Qy (a.drop k) b:=by unfold Qy;rw[←List.flatMap_append,List.take_append_drop]
 rw[h];simp
theorem KJ (a b:List (Int×Int))(va vb:Value)(w:World)(ha:SlP w w.heap.size 2 RuE va a)(hb:SlP w w.heap.size 2 RuE vb b)(hra:runsR none a=true)(hrb:runsR none b=true)(hN:(Qy a b).length<=900000) :
  Calls Tryz.prog 159 #[va,vb] w (RetO w 167 2 (fun _=>RuE) (Qy a b)):=by
 have HA:=hid ha
 have HB:=hid hb
 have HRA:=hid hra
 have HRB:=hid hrb
 obtain⟨A1,c1,rfl,a1,a2,a3⟩:=ha
 obtain⟨A2,c2,rfl,b1,b2,b3⟩:=hb
 unfold Big at a2 b2
 clear hra hrb
 go_enter Tryz.func159,Tryz.ntmps159
 go_wp2_with fail
 refine (XY a b _ _ w HA.out HB.out).mono ?_
 rw[HRA.out,HRB.out]
 rintro e w1 ⟨rfl,hb1⟩
 have hs1:=hb1.size
 go_wp2_with fail
 go_loopw [5,16] (fun v i wr=>∃ k:Nat,k<=a.length/\i=.int .i64 k/\OwnP wr w1.heap.size 167 2 RuE v (Qy (a.take k) b)/\Below w1.heap.size w1 wr) (fun _ i _=>a.length-(intOf i).toNat)
 case atStart=>exact⟨0,Nat.zero_le _,rfl,OwnP.nil,Below.refl _ _⟩
 case round=>
  obtain⟨k,hk,rfl,hown,hbr⟩:=hrel
  have hsz:=hbr.size
  have hB0:Below w.heap.size w wr:=hb1.trans (hbr.mono hs1)
  by_cases hlt:k<a.length
  ·obtain⟨r,hr⟩:∃ x,a[k]?=some x:=⟨_,List.getElem?_eq_getElem hlt⟩
   obtain⟨bb,off,rfl,hbB,hc⟩:=a3 (by rintro rfl;simp at hlt)
   obtain⟨cs,⟨rfl,hok⟩,_,hu⟩:=hc k _ hr
   have e0:wr.cell? ⟨bb,off+k*2,none⟩=some (.int .i64 r.1):=(hB0.cell hbB).trans (hu 0 _ rfl)
   have e1:wr.cell? ⟨bb,off+k*2+1,none⟩=some (.int .i64 r.2):=(hB0.cell hbB).trans (hu 1 _ rfl)
   have hrok:=QQ a none HRA.out r (List.mem_of_getElem? hr)
   unfold runOk at hrok
   have HX:=hid (Jw (b:=b) hr)
   have HLE:Hid ((Qy (a.take (k+1)) b).length<=900000):=Nat.le_trans (VI a b _) hN
   clear hu hc a3 hr
   go_wp2_with fail
   obtain⟨wo,rfl⟩:∃ wo:World,wo=wr:=⟨_,rfl⟩
   go_loopw [5,22] (fun v i wq=>∃ (j:Nat) (os:List (Int×Int)) (lo:Int),j<=b.length/\i=.int .i64 j/\OwnP wq w1.heap.size 167 2 RuE v os/\Hid (os++cutL (b.drop j) lo r.2=Qy (a.take (k+1)) b)/\(∀ g,v.ownBlock=some g->g≠wo.heap.size) /\
     wq.heap[wo.heap.size]?=some (.cells #[.int .i64 lo,.int .i64 r.2] 167 (0,0))/\1<=lo/\lo<=1099511627777/\wo.heap.size<wq.heap.size/\Below w1.heap.size w1 wq) (fun _ i _=>b.length-(intOf i).toNat)
   case atStart=>exact⟨0,_,r.1,Nat.zero_le _,rfl,hown.alloc _,by unfold Hid;rw[HX.out];simp,fun g hg=>Nat.ne_of_lt (hown.lt g hg).2,Qg rfl,by omega,by omega,by simp,hbr.alloc (by omega) _⟩
   case round=>
    obtain⟨j,os,lo,hj,rfl,hown,HOS,hne,hg7,hl1,hl2,hsq,hbq⟩:=hrel
    have hBq:Below w.heap.size w wr:=hb1.trans (hbq.mono hs1)
    have d0:wr.cell? ⟨wo.heap.size,0,none⟩=some (.int .i64 lo):=Qa (i:=0) hg7
    have d1:wr.cell? ⟨wo.heap.size,1,none⟩=some (.int .i64 r.2):=Qa (i:=1) hg7
    have hf:=Qc (i:=0) hg7
    have hnq:wo.heap.size≠wr.heap.size:=by omega
    by_cases hlj:j<b.length
    ·obtain⟨x,hx⟩:∃ x,b[j]?=some x:=⟨_,List.getElem?_eq_getElem hlj⟩
     obtain⟨bb',off',rfl,hbB',hc⟩:=b3 (by rintro rfl;simp at hlj)
     obtain⟨cs,⟨rfl,hok'⟩,_,hu⟩:=hc j _ hx
     have f0:wr.cell? ⟨bb',off'+j*2,none⟩=some (.int .i64 x.1):=(hBq.cell hbB').trans (hu 0 _ rfl)
     have f1:wr.cell? ⟨bb',off'+j*2+1,none⟩=some (.int .i64 x.2):=(hBq.cell hbB').trans (hu 1 _ rfl)
     have hxok:=QQ b none HRB.out x (List.mem_of_getElem? hx)
     unfold runOk at hxok
     have hcut:=VG hx lo r.2
     clear hu hc b3 hx
     rcases t1:decide (x.2<lo)
     ·rcases t2:decide (r.2<x.1)
      ·have hno:¬(x.2<lo∨r.2<x.1):=by simp at t1 t2;omega
       rw[if_neg hno]at hcut
       rcases t3:decide (lo<x.1)
       ·have HO2:Hid (os++cutL (b.drop (j+1)) (x.2+1) r.2=Qy (a.take (k+1)) b):=by
         have h:=HOS.out
         rw[hcut,if_neg (by simpa using t3)]at h;exact h
        clear hcut
        go_wp2_with fail
        have hW:=Qd (i:=0) hg7 (.int .i64 (x.2+1))
        have hZ:(wr.setCell ⟨wo.heap.size,0,none⟩ (.int .i64 (x.2+1))).heap.size=wr.heap.size:=by simp[World.setCell]
        go_roundw
        case rel=>exact⟨j+1,os,x.2+1,by omega,by go_num,(hown.keep fun g hg=>Below.heap_setCell _ _ _ _ (hne g hg)).alloc _,HO2,hne,(Qh (by omega)).trans (by simpa using hW),by omega,by omega,by rw[World.size_alloc];omega,(hbq.setCell (p:=⟨wo.heap.size,0,none⟩) (by show w1.heap.size<=wo.heap.size;omega) _).alloc (by omega) _⟩
        case measure=>simp[intOf];omega
       ·have HO2:Hid ((os++[(lo,x.1-1)])++cutL (b.drop (j+1)) (x.2+1) r.2=Qy (a.take (k+1)) b):=by
         have h:=HOS.out
         rw[hcut,if_pos (by simpa using t3)]at h;unfold Hid;rw[←h];simp
        have hll:os.length+1<=900000:=by have h:=congrArg List.length HO2.out;have:=HLE.out;simp at h;omega
        have HRE:Hid (RuE (lo,x.1-1) [.int .i64 lo,.int .i64 (x.1-1)]):=⟨rfl,⟨by show _<=lo;omega,by show lo<=_;omega⟩,⟨by show _<=x.1-1;omega,by show x.1-1<=_;omega⟩⟩
        clear hcut
        go_wp2_with (at_builtin;go_loud (refine ZY rfl (.tmp 43) (.tmp 50) _ rfl eiRun (by decide) (fun _ _ h=>h.one) rfl ((hown.alloc _).alloc _) rfl (SlP.one (x:=(lo,x.1-1)) HRE.out rfl _ (by rw[World.size_alloc])) (by simp;omega) (by simp[Big];omega) (by rw[World.size_alloc,World.size_alloc];omega) ?_);intro v1 w4 hown4 hgr hob;go_loud (have hb4:Hid (Below w1.heap.size ((wr.alloc (.cells #[.int .i64 x.1,.int .i64 x.2] 167)).alloc (.cells #[.int .i64 lo,.int .i64 (x.1-1)] 167)) w4):=((Below.refl w1.heap.size _).grown hgr (by rw[World.size_alloc,World.size_alloc];omega) fun g hg=>(hown.lt g hg).1);have hg4:w4.heap[wo.heap.size]?=some (.cells #[.int .i64 lo,.int .i64 r.2] 167 (0,0)):=(hgr.block _ (by rw[World.size_alloc,World.size_alloc];omega) (fun e=>hne _ e.symm rfl)).trans ((Qh (by rw[World.size_alloc];omega)).trans ((Qh hsq).trans hg7));have g0:w4.cell? ⟨wo.heap.size,0,none⟩=some (.int .i64 lo):=Qa (i:=0) hg4;have gf:=Qc (i:=0) hg4;have hg5:w4.heap[wr.heap.size]?=some (.cells #[.int .i64 x.1,.int .i64 x.2] 167 (0,0)):=(hgr.block _ (by rw[World.size_alloc,World.size_alloc];omega) (fun e=>by have:=(hown.lt _ e.symm).2;omega)).trans ((Qh (by rw[World.size_alloc];omega)).trans (Qg rfl));have g1:w4.cell? ⟨wr.heap.size,1,none⟩=some (.int .i64 x.2):=Qa (i:=1) hg5))
        have hs4:=hb4.out.size
        have hz4:=hgr.size
        rw[World.size_alloc,World.size_alloc]at hz4
        have hne4:∀ g,v1.ownBlock=some g->g≠wo.heap.size:=fun g hg=>by
         rcases hob with h|h
         ·exact hne g (h▸hg)
         ·rw[h,World.size_alloc,World.size_alloc]at hg;cases hg;omega
        have hW:=Qd (i:=0) hg4 (.int .i64 (x.2+1))
        go_roundw
        case rel=>exact⟨j+1,_,x.2+1,by omega,by go_num,hown4.keep fun g hg=>Below.heap_setCell _ _ _ _ (hne4 g hg),HO2,hne4,by simpa using hW,by omega,by omega,by simp[World.setCell];omega,(((hbq.alloc (by omega) _).alloc (by rw[World.size_alloc];omega) _).trans hb4.out).setCell (p:=⟨wo.heap.size,0,none⟩) (by show w1.heap.size<=wo.heap.size;omega) _⟩
        case measure=>simp[intOf];omega
      ·have HO2:Hid (os++cutL (b.drop (j+1)) lo r.2=Qy (a.take (k+1)) b):=by
        have h:=HOS.out
        rw[hcut,if_pos (.inr (by simpa using t2))]at h;exact h
       clear hcut
       go_wp2_with fail
       go_roundw
       case rel=>exact⟨j+1,os,lo,by omega,by go_num,hown.alloc _,HO2,hne,(Qh hsq).trans hg7,hl1,hl2,by simp;omega,hbq.alloc (by omega) _⟩
       case measure=>simp[intOf];omega
     ·have HO2:Hid (os++cutL (b.drop (j+1)) lo r.2=Qy (a.take (k+1)) b):=by
       have h:=HOS.out
       rw[hcut,if_pos (.inl (by simpa using t1))]at h;exact h
      clear hcut
      go_wp2_with fail
      go_roundw
      case rel=>exact⟨j+1,os,lo,by omega,by go_num,hown.alloc _,HO2,hne,(Qh hsq).trans hg7,hl1,hl2,by simp;omega,hbq.alloc (by omega) _⟩
      case measure=>simp[intOf];omega
    ·obtain rfl:j=b.length:=by omega
     have hend:=HOS.out
     rw[List.drop_length,cutL]at hend
     rcases t4:decide (lo<=r.2)
     ·rw[if_neg (by simpa using t4),List.append_nil]at hend
      have HEN:=hid hend
      clear hend
      go_wp2_with fail
      go_roundw
      case rel=>exact⟨k+1,by omega,by go_num,by rw[←HEN.out];exact hown,hbq⟩
      case measure=>simp[intOf];omega
     ·rw[if_pos (by simpa using t4)]at hend
      have HEN:=hid hend
      have hll:os.length+1<=900000:=by have h:=congrArg List.length hend;have:=HLE.out;simp at h;omega
      have HL:Hid (os.length + [(lo,r.2)].length<=Few):=by unfold Hid Few;simp;omega
      have HRE:Hid (RuE (lo,r.2) [.int .i64 lo,.int .i64 r.2]):=⟨rfl,⟨by show _<=lo;omega,by show lo<=_;omega⟩,⟨by show _<=r.2;omega,by show r.2<=_;omega⟩⟩
      clear hend
      go_wp2_with (at_builtin;go_loud (refine Qi rfl (.tmp 62) (.tmp 64) _ rfl eiRun (by decide) (by decide) (fun _ _ h=>h.one) rfl (hown.alloc _) rfl (SlP.one (x:=(lo,r.2)) HRE.out rfl _ rfl) HL.out (by rw[World.size_alloc];omega) ?_);intro v1 w4 hown4 hb4 _)
      go_roundw
      case rel=>exact⟨k+1,by omega,by go_num,by rw[←HEN.out];exact hown4,(hbq.alloc (by omega) _).trans hb4⟩
      case measure=>simp[intOf];omega
  ·obtain rfl:k=a.length:=by omega
   rw[List.take_of_length_le (Nat.le_refl _)]at hown
   go_wp2_with fail
   go_ret
   exact⟨_,rfl,hown.mono hs1,hB0⟩
theorem X0 (l:List Dt):(ctxOf l).length<=4*(l.length+1):=Z6 l 4
theorem X1 (a b:List Sp)(how:Int):(ctxBy a b how).length<=4*(2*a.length+2*b.length+1):=Zq a b how 4
theorem KL:Jv 159 2:=
 ⟨enters_of Tryz.func159 (by kernel_rfl) rfl,fun a b va vb W ha hb hra hrb hN hN'=>Kc hra hrb▸KJ a b va vb W ha hb hra hrb (by rw[Kc hra hrb];have:=Xl a b 2;omega)⟩
theorem KM (a b:List Sp)(va vb:Value)(w:World)(ha:SlP w w.heap.size 3 SpE va a)(hb:SlP w w.heap.size 3 SpE vb b)(hra:Qk a=true)(hrb:Qk b=true)(hN:a.length<=20000)(hN':b.length<=20000) :
  Calls Tryz.prog 116 #[va,vb] w (RetO w 45 3 (fun _=>SpE) (ctxBy a b 2)):=by
 go_enter Tryz.func116,Tryz.ntmps116
 go_wp2_with fail
 refine (VF a b 2 _ KL va vb w ha hb hra hrb hN hN').mono ?_
 rintro e w1 ⟨v,rfl,h⟩
 go_wp2_with fail
 go_ret
 exact⟨v,rfl,h⟩
theorem Y7 (c:List Sp)(vc:Value)(w:World)(h:SlP w w.heap.size 3 SpE vc c)(hN:c.length<=900000) :
  Calls Tryz.prog 115 #[vc] w fun e w'=>e=.returned (.bool (Qk c))/\Below w.heap.size w w':=by
 have HC:=hid h
 obtain⟨A,n,rfl,_⟩:=h
 go_enter Tryz.func115,Tryz.ntmps115
 go_wp2_with fail
 refine (ZG c _ _ HC.out hN).mono ?_
 rintro e w1 ⟨vs,rfl,hsl,hb1⟩
 have hs1:=hb1.size
 obtain⟨A0,m0,g0,_⟩:=hsl 0 (by omega)
 obtain⟨A1,m1,g1,_⟩:=hsl 1 (by omega)
 obtain⟨A2,m2,g2,_⟩:=hsl 2 (by omega)
 obtain⟨A3,m3,g3,_⟩:=hsl 3 (by omega)
 simp only[g0,g1,g2,g3]
 clear hsl g0 g1 g2 g3
 go_wp2_with fail
 all_goals (go_ret;exact⟨rfl,hb1.alloc hs1 _⟩)
def cLeq (a b:List Sp):Bool:=Qk a&&(Qk b&&decide ((ctxBy a b 2).length=0))
theorem qQs (a b:List Sp)(va vb:Value)(w:World)(ha:SlP w w.heap.size 3 SpE va a)(hb:SlP w w.heap.size 3 SpE vb b)(hN:a.length<=20000)(hN':b.length<=20000) :
  Calls Tryz.prog 69 #[va,vb] w fun e w'=>e=.returned (.bool (cLeq a b))/\Below w.heap.size w w':=by
 have HA:=hid ha
 have HB:=hid hb
 obtain⟨A1,c1,rfl,_⟩:=ha
 obtain⟨A2,c2,rfl,_⟩:=hb
 go_enter Tryz.func69,Tryz.ntmps69
 go_wp2_with fail
 refine (Y7 a _ w HA.out (by omega)).mono ?_
 rintro e w1 ⟨rfl,hb1⟩
 have hs1:=hb1.size
 cases ra:Qk a
 ·have HR:Hid (cLeq a b=false):=by unfold Hid cLeq;rw[ra];rfl
  clear ra
  go_wp2_with fail
  go_ret
  exact⟨Qe HR.out.symm,hb1⟩
 have RA:=hid ra
 go_wp2_with fail
 refine (Y7 b _ w1 (HB.out.imp hb1 hs1 fun _ _ _ h=>h) (by omega)).mono ?_
 rintro e w2 ⟨rfl,hb2⟩
 have hs2:=hb2.size
 have hB2:Below w.heap.size w w2:=hb1.trans (hb2.mono hs1)
 cases rb:Qk b
 ·have HR:Hid (cLeq a b=false):=by unfold Hid cLeq;rw[ra,rb];rfl
  clear ra rb
  go_wp2_with fail
  go_ret
  exact⟨Qe HR.out.symm,hB2⟩
 have RB:=hid rb
 have HR:Hid (cLeq a b=decide ((ctxBy a b 2).length=0)):=by unfold Hid cLeq;rw[ra,rb];rfl
 clear ra rb
 go_wp2_with fail
 refine (KM a b _ _ w2 (HA.out.imp hB2 (by omega) fun _ _ _ h=>h) (HB.out.imp hB2 (by omega) fun _ _ _ h=>h) RA.out RB.out hN hN').mono ?_
 rintro e w3 ⟨v3,rfl,ho3,hb3⟩
 obtain⟨A5,c5,rfl⟩:=ho3.shape
 have hl:=X1 a b 2
 clear ho3
 generalize ctxBy a b 2=C at *
 rcases hz:decide (C.length=0)
 ·have hz2:C.length≠0:=by simpa using hz
  have HZ:=hid hz
  clear hz
  go_wp2_with fail
  go_ret
  exact⟨Qe (by rw[HR.out,HZ.out];simpa using hz2),hB2.trans (hb3.mono (by omega))⟩
 ·have hz2:C.length=0:=by simpa using hz
  have HZ:=hid hz
  clear hz
  go_wp2_with fail
  go_ret
  exact⟨Qe (by rw[HR.out,HZ.out]),hB2.trans (hb3.mono (by omega))⟩
def caR (t:Tr)(c:List Sp):Bool:=t.right 5&&cLeq (ctxOf t.dots) c
theorem QF (t:Tr)(c:List Sp)(ve vk vc:Value)(w:World)(h:t.rd w w.heap.size ve vk)(hc:SlP w w.heap.size 3 SpE vc c)(hN:t.sz<=4000)(hN':c.length<=20000) :
  Calls Tryz.prog 34 #[.agg #[ve,vk,vc]] w fun e w'=>e=.returned (.bool (caR t c))/\Below w.heap.size w w':=by
 have HC:Hid (∀ w',Below w.heap.size w w'->t.rd w' w'.heap.size ve vk):=fun w' hb=>Qj hb hb.size _ _ _ h
 have HS:Hid (∀ w',Below w.heap.size w w'->SlP w' w'.heap.size 3 SpE vc c):=fun w' hb=>hc.imp hb hb.size fun _ _ _ h=>h
 have hd1:=X0 t.dots
 have hd2:=Yi t
 obtain⟨A3,n3,A4,n4,rfl,rfl⟩:=Ql h
 obtain⟨A5,n5,rfl,_⟩:=hc
 clear h
 have hb0:Below w.heap.size w (w.alloc (.cells #[.slice A3 t.es.length n3,.slice A4 t.ks.length n4,.slice A5 c.length n5] 29)):=(Below.refl _ w).alloc (Nat.le_refl _) _
 go_enter Tryz.func34,Tryz.ntmps34
 go_wp2_with fail
 refine (Vy t _ _ _ (HC.out _ hb0) (by omega)).mono ?_
 rintro e w1 ⟨v1,n1,rfl,hn1,ho1,hb1⟩
 have hs1:=hb1.size
 simp only[World.size_alloc]at hs1
 have hB1:Below w.heap.size w w1:=hb0.trans (hb1.mono (by simp))
 have b2:w1.cell? ⟨w.heap.size,2,none⟩=some (.slice A5 c.length n5):=by rw[hb1.cell (p:=⟨w.heap.size,2,none⟩) (by simp)];simp
 cases hr:t.right 5
 ·rw[hr]at hn1 ho1
  simp only[Bool.false_eq_true,if_false]at hn1 ho1
  subst hn1
  have HR:Hid (caR t c=false):=by unfold Hid caR;rw[hr];rfl
  obtain⟨A6,n6,rfl⟩:=ho1.shape
  clear hr ho1
  go_wp2_with fail
  go_ret
  exact⟨Qe HR.out.symm,hB1⟩
 ·rw[hr]at hn1 ho1
  simp only[if_true]at hn1 ho1
  subst hn1
  have HR:Hid (caR t c=cLeq (ctxOf t.dots) c):=by unfold Hid caR;rw[hr];rfl
  have HSL:=hid (ho1.sl (by unfold Big;omega))
  obtain⟨A6,n6,rfl⟩:=ho1.shape
  clear hr ho1
  go_wp2_with fail
  refine (qQs (ctxOf t.dots) c _ _ w1 HSL.out (HS.out _ hB1) (by omega) hN').mono ?_
  rintro e w2 ⟨rfl,hb2⟩
  go_wp2_with fail
  go_ret
  exact⟨Qe HR.out.symm,hB1.trans (hb2.mono (by omega))⟩
theorem Jy {l:List Dt}(h:∀ d∈l,d.right=true):SpsOk (ctxOf l):=fun s hs=>by
 have ha:=Zg h
 have hd:=ZS (fun i=>ofL (numsL l i)) 4 s hs
 unfold ctxOf Zv at hs
 obtain⟨i,_,hs⟩:=List.mem_flatMap.1 hs
 obtain⟨r,hr,rfl⟩:=List.mem_map.1 hs
 have:=Xs _ none (ZP (Js h i)).1 r hr
 unfold runOk at this
 exact⟨by show 0<=r.1;omega,by show r.1<=_;omega,by show 0<=r.2;omega,by show r.2<=_;omega⟩
theorem X2 (l:List (Int×Int))(v:Value)(w:World)(h:SlP w w.heap.size 2 RuE v l) :
  Calls Tryz.prog 122 #[v] w fun e w'=>e=.returned (.bool (runsR none l))/\Below w.heap.size w w':=by
 obtain⟨A,n,rfl,b1,b2,b3⟩:=h
 unfold Big at b2
 go_enter Tryz.func122,Tryz.ntmps122
 go_wp2_with fail
 go_loopw [6] (fun i wr=>∃ k:Nat,k<=l.length/\i=.int .i64 k/\Hid (runsR (prevR l k) (l.drop k)=runsR none l)/\Hid (∀ h,prevR l k=some h->1<=h/\h<=1099511627776)/\Below w.heap.size w wr) (fun i _=>l.length-(intOf i).toNat)
 case atStart=>exact⟨0,Nat.zero_le _,rfl,rfl,fun _ h=>by simp[prevR]at h,Below.refl _ _⟩
 case round=>
  obtain⟨k,hk,rfl,hrel,hpr,hb⟩:=hrel
  have hsz:=hb.size
  by_cases hlt:k<l.length
  ·obtain⟨r,hx⟩:∃ x,l[k]?=some x:=⟨_,List.getElem?_eq_getElem hlt⟩
   obtain⟨b,off,rfl,hbB,hc⟩:=b3 (by rintro rfl;simp at hlt)
   obtain⟨cs,⟨rfl,hok⟩,_,hu⟩:=hc k _ hx
   have hi1:=hok.1
   unfold I64 at hi1
   have e0:wr.cell? ⟨b,off+k*2,none⟩=some (.int .i64 r.1):=(hb.cell hbB).trans (hu 0 _ rfl)
   have e1:wr.cell? ⟨b,off+k*2+1,none⟩=some (.int .i64 r.2):=(hb.cell hbB).trans (hu 1 _ rfl)
   have HR:Hid (runsR none l=(numB r.1&&numB r.2&&decide (r.1<=r.2)&&okR (prevR l k) r.1&&runsR (prevR l (k+1)) (l.drop (k+1)))):=by
    have:=hrel.out
    rw[Qz hx,Z3]at this
    rw[Zo hx];exact this.symm
   have HPS:=hid (Zo hx)
   have f0:=Qf (B:=wr.heap.size) (w:=wr) (b:=b) (o:=off+k*2) (v:=.int .i64 r.1) e0 (by omega)
   have f1:=Qf (B:=wr.heap.size) (w:=wr) (b:=b) (o:=off+k*2+1) (v:=.int .i64 r.2) e1 (by omega)
   have hprev:∃ q:Int,(0<k->prevR l k=some q/\(∀ p:Far wr.heap.size wr,p.w'.cell? ⟨b,off+(k-1)*2+1,none⟩=some (.int .i64 q))):=by
    by_cases h0:0<k
    ·obtain⟨y,hy⟩:∃ y,l[k-1]?=some y:=⟨_,List.getElem?_eq_getElem (by omega)⟩
     obtain⟨cs,⟨rfl,_⟩,_,hu⟩:=hc (k-1) _ hy
     refine⟨y.2,fun _=>⟨by rw[prevR,if_neg (by omega),hy];rfl,fun p=>Qf ?_ (by omega) p⟩⟩
     exact (hb.cell hbB).trans (hu 1 _ rfl)
    ·exact⟨0,fun h=>absurd h h0⟩
   obtain⟨q,hprev⟩:=hprev
   go_upto_region 4 with (fail)
   clear hrel hu hc b3 hx e0 e1 hok
   rcases t1:decide (r.1<1)
   case true=>
    have h1:Hid (numB r.1=false):=by have:=of_decide_eq_true t1;unfold Hid;simp[numB];omega
    refine Qb wr.heap.size (by kernel_rfl) (by kernel_rfl) ?_
    repeat (go_big_quiet_step (fail))
    refine wpQuiet_nil ?_
    intro wq hbq
    have hbw:Below w.heap.size w wq:=hb.trans (hbq.mono (by omega))
    go_wp2_with fail
    go_ret
    refine⟨Qe ?_,hbw⟩
    rw[HR.out]
    rw[h1.out];simp
   rcases t2:decide (1099511627776<r.2)
   case true=>
    have h2:Hid (numB r.2=false):=by have:=of_decide_eq_true t2;unfold Hid;simp[numB];omega
    refine Qb wr.heap.size (by kernel_rfl) (by kernel_rfl) ?_
    repeat (go_big_quiet_step (fail))
    refine wpQuiet_nil ?_
    intro wq hbq
    have hbw:Below w.heap.size w wq:=hb.trans (hbq.mono (by omega))
    go_wp2_with fail
    go_ret
    refine⟨Qe ?_,hbw⟩
    rw[HR.out]
    rw[h2.out];simp
   rcases t3:decide (r.2<r.1)
   case true=>
    have h3:Hid (decide (r.1<=r.2)=false):=by have:=of_decide_eq_true t3;unfold Hid;simp;omega
    refine Qb wr.heap.size (by kernel_rfl) (by kernel_rfl) ?_
    repeat (go_big_quiet_step (fail))
    refine wpQuiet_nil ?_
    intro wq hbq
    have hbw:Below w.heap.size w wq:=hb.trans (hbq.mono (by omega))
    go_wp2_with fail
    go_ret
    refine⟨Qe ?_,hbw⟩
    rw[HR.out]
    rw[h3.out];simp
   have g1:=of_decide_eq_false t1
   have g2:=of_decide_eq_false t2
   have g3:=of_decide_eq_false t3
   have h3:Hid (decide (r.1<=r.2)=true):=by unfold Hid;simp;omega
   have h1:numB r.1=true:=by simp[numB];omega
   have h2:numB r.2=true:=by simp[numB];omega
   have HN:Hid (∀ h,prevR l (k+1)=some h->1<=h/\h<=1099511627776):=fun h hh=>by rw[HPS.out]at hh;cases hh;omega
   rcases Nat.eq_zero_or_pos k with h0|h0
   ·have t0:decide ((0:Int)<(k:Int))=false:=by simp;omega
    have t0':decide (0<k)=false:=by simp;omega
    have hpk:Hid (okR (prevR l k) r.1=true):=by rw[show prevR l k=none by (rw[h0];rfl)];rfl
    clear h0 hprev
    refine Qb wr.heap.size (by kernel_rfl) (by kernel_rfl) ?_
    repeat (go_big_quiet_step (fail))
    refine wpQuiet_nil ?_
    intro wq hbq
    have hbw:Below w.heap.size w wq:=hb.trans (hbq.mono (by omega))
    go_wp2_with fail
    go_roundw
    case rel=>
     refine⟨k+1,by omega,by go_num,?_,HN.out,hbw⟩
     show _=_
     rw[HR.out,h1,h2]
     rw[h3.out,hpk.out];simp
    case measure=>simp[intOf];omega
   ·obtain⟨hq,q0⟩:=hprev h0
    have hqb:=hpr.out q hq
    have hwq:IntKind.i64.wrap (r.1-q)=r.1-q:=IntWalk.i64_in _ (by omega)
    have hwk:IntKind.i64.wrap ((k:Int)-1)=(k:Int)-1:=IntWalk.i64_in _ (by omega)
    rcases t5:decide (r.1-q<2)
    ·have hpk:Hid (okR (prevR l k) r.1=true):=by rw[hq];have:=of_decide_eq_false t5;unfold Hid;simp[okR];omega
     clear hprev hq hqb
     refine Qb wr.heap.size (by kernel_rfl) (by kernel_rfl) ?_
     repeat (go_big_quiet_step (fail))
     refine wpQuiet_nil ?_
     intro wq hbq
     have hbw:Below w.heap.size w wq:=hb.trans (hbq.mono (by omega))
     go_wp2_with fail
     go_roundw
     case rel=>
      refine⟨k+1,by omega,by go_num,?_,HN.out,hbw⟩
      show _=_
      rw[HR.out,h1,h2]
      rw[h3.out,hpk.out];simp
     case measure=>simp[intOf];omega
    ·have hpk:Hid (okR (prevR l k) r.1=false):=by rw[hq];have:=of_decide_eq_true t5;unfold Hid;simp[okR];omega
     clear hprev hq hqb
     refine Qb wr.heap.size (by kernel_rfl) (by kernel_rfl) ?_
     repeat (go_big_quiet_step (fail))
     refine wpQuiet_nil ?_
     intro wq hbq
     have hbw:Below w.heap.size w wq:=hb.trans (hbq.mono (by omega))
     go_wp2_with fail
     go_ret
     refine⟨Qe ?_,hbw⟩
     rw[HR.out]
     rw[h1,h2,h3.out,hpk.out];simp
  ·obtain rfl:k=l.length:=by omega
   have hr:=hrel.out
   go_wp2_with fail
   go_ret
   exact⟨Qe (by rw[←hr];simp[runsR]),hb⟩
theorem Q4 (c:List Sp)(vc:Value)(w:World)(h:SlP w w.heap.size 3 SpE vc c)(hN:c.length<=900000) :
  Calls Tryz.prog 76 #[vc] w fun e w'=>e=.returned (.bool (Qk c))/\Below w.heap.size w w':=by
 have HS:=hid h
 obtain⟨A,n,rfl,b1,b2,b3⟩:=h
 unfold Big at b2
 go_enter Tryz.func76,Tryz.ntmps76
 go_wp2_with fail
 go_loopw [7] (fun i wr=>∃ (k:Nat) (L:Int),k<=c.length/\i=.int .i64 k/\Hid (dcsOk L (c.drop k)=dcsOk 0 c)/\Hid (∀ y,0<k->c[k-1]?=some y->y.dc=L)/\Hid (k=0->L=0)/\0<=L/\Below w.heap.size w wr) (fun i _=>c.length-(intOf i).toNat)
 case atStart=>exact⟨0,0,Nat.zero_le _,rfl,rfl,fun _ h=>absurd h (Nat.not_lt_zero _),fun _=>rfl,Int.le_refl _,Below.refl _ _⟩
 case round=>
  obtain⟨k,L,hk,rfl,hrel,hpr,hz0,hL,hb⟩:=hrel
  have hsz:=hb.size
  by_cases hlt:k<c.length
  ·obtain⟨x,hx⟩:∃ x,c[k]?=some x:=⟨_,List.getElem?_eq_getElem hlt⟩
   obtain⟨b,off,rfl,hbB,hc⟩:=b3 (by rintro rfl;simp at hlt)
   obtain⟨cs,⟨rfl,hok⟩,_,hu⟩:=hc k _ hx
   have e0:wr.cell? ⟨b,off+k*3,none⟩=some (.int .i64 x.dc):=(hb.cell hbB).trans (hu 0 _ rfl)
   have HR:Hid (dcsOk 0 c=(decide (L<=x.dc)&&decide (x.dc<4)&&dcsOk x.dc (c.drop (k+1)))):=by
    have:=hrel.out
    rw[Qz hx,dcsOk]at this
    exact this.symm
   have HQ:Hid (∀ y,0<k+1->c[k+1-1]?=some y->y.dc=x.dc):=fun y _ hy=>by
    rw[Nat.add_sub_cancel,hx]at hy;cases hy;rfl
   have f0:=Qf (B:=wr.heap.size) (w:=wr) (b:=b) (o:=off+k*3) (v:=.int .i64 x.dc) e0 (by omega)
   have hprev:0<k->(∀ p:Far wr.heap.size wr,p.w'.cell? ⟨b,off+(k-1)*3,none⟩=some (.int .i64 L)):=fun h0=>by
    obtain⟨y,hy⟩:∃ y,c[k-1]?=some y:=⟨_,List.getElem?_eq_getElem (by omega)⟩
    obtain⟨cs,⟨rfl,_⟩,_,hu⟩:=hc (k-1) _ hy
    intro p
    refine Qf ?_ (by omega) p
    rw[←hpr.out y h0 hy]
    exact (hb.cell hbB).trans (hu 0 _ rfl)
   go_upto_region 4 with (fail)
   clear hrel hu hc b3 hx e0 hok hpr
   rcases t1:decide (x.dc<0)
   case true=>
    have HF:Hid (Qk c=false):=by
     have:=of_decide_eq_true t1
     unfold Hid Qk;rw[HR.out,decide_eq_false (show ¬L<=x.dc by omega)];rfl
    refine Qb wr.heap.size (by kernel_rfl) (by kernel_rfl) ?_
    repeat (go_big_quiet_step (fail))
    refine wpQuiet_nil ?_
    intro wq hbq
    have hbw:Below w.heap.size w wq:=hb.trans (hbq.mono (by omega))
    go_wp2_with fail
    go_ret
    exact⟨Qe HF.out.symm,hbw⟩
   rcases t2:decide (4<=x.dc)
   case true=>
    have HF:Hid (Qk c=false):=by
     have:=of_decide_eq_true t2
     unfold Hid Qk;rw[HR.out,decide_eq_false (show ¬x.dc<4 by omega)];simp
    refine Qb wr.heap.size (by kernel_rfl) (by kernel_rfl) ?_
    repeat (go_big_quiet_step (fail))
    refine wpQuiet_nil ?_
    intro wq hbq
    have hbw:Below w.heap.size w wq:=hb.trans (hbq.mono (by omega))
    go_wp2_with fail
    go_ret
    exact⟨Qe HF.out.symm,hbw⟩
   have g1:0<=x.dc:=by have:=of_decide_eq_false t1;omega
   have g2:=of_decide_eq_false t2
   rcases Nat.eq_zero_or_pos k with h0|h0
   ·have t0:decide ((0:Int)<(k:Int))=false:=by simp;omega
    have t0':decide (0<k)=false:=by simp;omega
    have HG:Hid (dcsOk x.dc (c.drop (k+1))=dcsOk 0 c):=by
     unfold Hid;rw[HR.out,decide_eq_true (show L<=x.dc by have:=hz0.out h0;omega),decide_eq_true (show x.dc<4 by omega)];rfl
    clear h0 hprev
    refine Qb wr.heap.size (by kernel_rfl) (by kernel_rfl) ?_
    repeat (go_big_quiet_step (fail))
    refine wpQuiet_nil ?_
    intro wq hbq
    have hbw:Below w.heap.size w wq:=hb.trans (hbq.mono (by omega))
    go_wp2_with fail
    go_roundw
    case rel=>exact⟨k+1,x.dc,by omega,by go_num,HG.out,HQ.out,fun h=>absurd h (Nat.succ_ne_zero k),g1,hbw⟩
    case measure=>simp[intOf];omega
   ·have q0:=hprev h0
    have hwk:IntKind.i64.wrap ((k:Int)-1)=(k:Int)-1:=IntWalk.i64_in _ (by omega)
    clear hprev
    rcases t5:decide (x.dc<L)
    ·have HG:Hid (dcsOk x.dc (c.drop (k+1))=dcsOk 0 c):=by
      have:=of_decide_eq_false t5
      unfold Hid;rw[HR.out,decide_eq_true (show L<=x.dc by omega),decide_eq_true (show x.dc<4 by omega)];rfl
     refine Qb wr.heap.size (by kernel_rfl) (by kernel_rfl) ?_
     repeat (go_big_quiet_step (fail))
     refine wpQuiet_nil ?_
     intro wq hbq
     have hbw:Below w.heap.size w wq:=hb.trans (hbq.mono (by omega))
     go_wp2_with fail
     go_roundw
     case rel=>exact⟨k+1,x.dc,by omega,by go_num,HG.out,HQ.out,fun h=>absurd h (Nat.succ_ne_zero k),g1,hbw⟩
     case measure=>simp[intOf];omega
    ·have HF:Hid (Qk c=false):=by
      have:=of_decide_eq_true t5
      unfold Hid Qk;rw[HR.out,decide_eq_false (show ¬L<=x.dc by omega)];rfl
     refine Qb wr.heap.size (by kernel_rfl) (by kernel_rfl) ?_
     repeat (go_big_quiet_step (fail))
     refine wpQuiet_nil ?_
     intro wq hbq
     have hbw:Below w.heap.size w wq:=hb.trans (hbq.mono (by omega))
     go_wp2_with fail
     go_ret
     exact⟨Qe HF.out.symm,hbw⟩
  ·obtain rfl:k=c.length:=by omega
   have HD:Hid (dcsOk 0 c=true):=by
    have:=hrel.out
    rw[List.drop_of_length_le (Nat.le_refl _),dcsOk]at this
    exact this.symm
   clear hrel hpr hz0 b3
   go_wp2_with fail
   obtain⟨wo,rfl⟩:∃ wo:World,wo=wr:=⟨_,rfl⟩
   go_loopw [43] (fun i wr=>∃ k:Nat,k<=4/\i=.int .i64 k/\Hid (((List.range k).all fun (dc:Nat)=>runsR none (partL c dc))=true)/\Below w.heap.size w wr) (fun i _=>4-(intOf i).toNat)
   case atStart=>exact⟨0,Nat.zero_le _,rfl,rfl,hb⟩
   case round=>
    clear hb hsz
    obtain⟨k,hk,rfl,hrel,hb⟩:=hrel
    have hsz:=hb.size
    by_cases hlt:k<4
    ·have HA:Hid (((List.range (k+1)).all fun (dc:Nat)=>runsR none (partL c dc))=runsR none (partL c k)):=by
      unfold Hid;rw[List.range_succ,List.all_append,hrel.out];simp
     have hpl:=Qu c k
     go_wp2_with fail
     refine (Zz c k _ wr (HS.out.imp hb hsz fun _ _ _ h=>h) (by omega)).mono ?_
     rintro e w1 ⟨v1,rfl,ho1,hb1⟩
     have hs1:=hb1.size
     have HO1:=hid (ho1.sl (by unfold Big;omega))
     clear ho1
     go_wp2_with fail
     refine (X2 (partL c k) _ w1 HO1.out).mono ?_
     rintro e w2 ⟨rfl,hb2⟩
     have hB2:Below w.heap.size w w2:=(hb.trans (hb1.mono hsz)).trans (hb2.mono (by omega))
     clear hb1 hb2
     rcases hq:runsR none (partL c k)
     ·have HF:Hid (Qk c=false):=by
       unfold Hid Qk
       rw[HD.out,Bool.true_and]
       refine List.all_eq_false.2 ⟨k,List.mem_range.2 hlt,?_⟩
       rw[hq];simp
      go_wp2_with fail
      go_ret
      exact⟨Qe HF.out.symm,hB2⟩
     ·have HA2:Hid (((List.range (k+1)).all fun (dc:Nat)=>runsR none (partL c dc))=true):=by unfold Hid;rw[HA.out,hq]
      go_wp2_with fail
      go_roundw
      case rel=>exact⟨k+1,by omega,by go_num,HA2.out,hB2⟩
      case measure=>simp[intOf];omega
    ·obtain rfl:k=4:=by omega
     have HT:Hid (Qk c=true):=by unfold Hid Qk;rw[HD.out,hrel.out];rfl
     go_wp2_with fail
     go_ret
     exact⟨Qe HT.out.symm,hb⟩
def rLeq (a b:List Sp):Bool:=decide ((ctxBy a b 2).length=0)
theorem Y8 (a b:List Sp)(va vb:Value)(w:World)(ha:SlP w w.heap.size 3 SpE va a)(hb:SlP w w.heap.size 3 SpE vb b)(hN:a.length<=50000)(hN':b.length<=50000)(hR:SpsOk a)(hR':SpsOk b) :
  Calls Tryz.prog 77 #[va,vb] w fun e w'=>e=.returned (.bool (rLeq a b))/\Below w.heap.size w w':=by
 go_enter Tryz.func77,Tryz.ntmps77
 go_wp2_with fail
 refine (Vi a b 2 _ _ w ha hb hN hN' hR hR' (by simp)).mono ?_
 rintro e w3 ⟨v3,rfl,ho3,hb3⟩
 obtain⟨A5,c5,rfl⟩:=ho3.shape
 have HR0:Hid (rLeq a b=decide ((ctxBy a b 2).length=0)):=rfl
 have hl:=X1 a b 2
 clear ho3
 generalize ctxBy a b 2=C at *
 rcases hz:decide (C.length=0)
 ·have hz2:C.length≠0:=by simpa using hz
  have HZ:=hid hz
  clear hz
  go_wp2_with fail
  go_ret
  exact⟨Qe (by rw[HR0.out,HZ.out];simpa using hz2),hb3⟩
 ·have hz2:C.length=0:=by simpa using hz
  have HZ:=hid hz
  clear hz
  go_wp2_with fail
  go_ret
  exact⟨Qe (by rw[HR0.out,HZ.out]),hb3⟩
theorem Jz {c:List Sp}(h:Qk c=true):SpsOk c:=fun s hs=>by
 have hd:=ZT c 0 (by unfold Qk at h;simp at h;exact h.1) s hs
 obtain⟨i,hi⟩:∃ i:Nat,(i:Int)=s.dc:=⟨s.dc.toNat,by omega⟩
 have hr:=QT h (i:=i) (by omega)
 have hm:(s.fr,s.hi)∈partL c (i:Int):=by
  unfold partL
  exact List.mem_map.2 ⟨s,List.mem_filter.2 ⟨hs,by simp[hi]⟩,rfl⟩
 have:=Xs _ none hr _ hm
 unfold runOk at this
 exact⟨by show 0<=s.fr;simp at this;omega,by show s.fr<=_;simp at this;omega,by show 0<=s.hi;simp at this;omega,by show s.hi<=_;simp at this;omega⟩
def r9R (t:Tr)(c:List Sp):Bool:=t.right 5&&(Qk c&&rLeq (ctxOf t.dots) c)
theorem qZf (t:Tr)(c:List Sp):caR t c=r9R t c:=by
 unfold caR r9R cLeq rLeq
 cases h:t.right 5
 ·rfl
 ·rw[Zg (Zs t 5 h)];rfl
theorem X3 (t:Tr)(c:List Sp)(ve vk vc:Value)(w:World)(h:t.rd w w.heap.size ve vk)(hc:SlP w w.heap.size 3 SpE vc c)(hN:t.sz<=4000)(hN':c.length<=20000) :
  Calls Tryz.prog 38 #[.agg #[ve,vk,vc]] w fun e w'=>e=.returned (.bool (r9R t c))/\Below w.heap.size w w':=by
 have HC:Hid (∀ w',Below w.heap.size w w'->t.rd w' w'.heap.size ve vk):=fun w' hb=>Qj hb hb.size _ _ _ h
 have HS:Hid (∀ w',Below w.heap.size w w'->SlP w' w'.heap.size 3 SpE vc c):=fun w' hb=>hc.imp hb hb.size fun _ _ _ h=>h
 have hd1:=X0 t.dots
 have hd2:=Yi t
 have hcl:(ctxOf t.dots).length<=50000:=by omega
 have HBL:Hid ((ctxOf t.dots).length<=Big):=by unfold Hid Big;omega
 obtain⟨A3,n3,A4,n4,rfl,rfl⟩:=Ql h
 obtain⟨A5,n5,rfl,_⟩:=hc
 clear h
 have hb0:Below w.heap.size w (w.alloc (.cells #[.slice A3 t.es.length n3,.slice A4 t.ks.length n4,.slice A5 c.length n5] 29)):=(Below.refl _ w).alloc (Nat.le_refl _) _
 have HB:Hid (∀ w',Below (w.heap.size+1) (w.alloc (.cells #[.slice A3 t.es.length n3,.slice A4 t.ks.length n4,.slice A5 c.length n5] 29)) w'->Below w.heap.size w w'/\t.rd w' w'.heap.size (.slice A3 t.es.length n3) (.slice A4 t.ks.length n4)/\SlP w' w'.heap.size 3 SpE (.slice A5 c.length n5) c/\(w'.cell? ⟨w.heap.size,0,none⟩=some (.slice A3 t.es.length n3)/\w'.cell? ⟨w.heap.size,1,none⟩=some (.slice A4 t.ks.length n4)/\w'.cell? ⟨w.heap.size,2,none⟩=some (.slice A5 c.length n5))):=fun w' hb=>by
  have hB:=hb0.trans (hb.mono (by omega))
  refine⟨hB,HC.out _ hB,HS.out _ hB,?_,?_,?_⟩
  ·rw[hb.cell (p:=⟨w.heap.size,0,none⟩) (by simp),World.cell?_alloc_new];rfl
  ·rw[hb.cell (p:=⟨w.heap.size,1,none⟩) (by simp),World.cell?_alloc_new];rfl
  ·rw[hb.cell (p:=⟨w.heap.size,2,none⟩) (by simp),World.cell?_alloc_new];rfl
 go_enter Tryz.func38,Tryz.ntmps38
 cases r1:t.right 5
 ·have HR1:=hid r1
  have HF:Hid (r9R t c=false):=by unfold Hid r9R;rw[r1];rfl
  clear r1
  have f0:=Qf (B:=w.heap.size+1) (w:=w.alloc (.cells #[.slice A3 t.es.length n3,.slice A4 t.ks.length n4,.slice A5 c.length n5] 29)) (b:=w.heap.size) (o:=0) (v:=.slice A3 t.es.length n3) (by simp) (by omega)
  have f1:=Qf (B:=w.heap.size+1) (w:=w.alloc (.cells #[.slice A3 t.es.length n3,.slice A4 t.ks.length n4,.slice A5 c.length n5] 29)) (b:=w.heap.size) (o:=1) (v:=.slice A4 t.ks.length n4) (by simp) (by omega)
  have f2:=Qf (B:=w.heap.size+1) (w:=w.alloc (.cells #[.slice A3 t.es.length n3,.slice A4 t.ks.length n4,.slice A5 c.length n5] 29)) (b:=w.heap.size) (o:=2) (v:=.slice A5 c.length n5) (by simp) (by omega)
  go_upto_region 1 with (fail)
  refine Qb (w.heap.size+1) (by kernel_rfl) (by kernel_rfl) ?_
  repeat (go_big_quiet_step (first|(go_at_call 48;exact Calls.far_all (by simp) (fun w' hb'=>HR1.out▸Q3 t w' _ _ (HB.out w' hb').2.1))|(go_at_call 76;exact Calls.far_all (by simp) (fun w' hb'=>HR2.out▸Q4 c _ w' (HB.out w' hb').2.2.1 (by omega)))))
  refine wpQuiet_nil ?_
  intro wq hbq
  go_wp2_with fail
  go_ret
  exact⟨Qe HF.out.symm,(HB.out _ hbq).1⟩
 have HR1:=hid r1
 cases r2:Qk c
 ·have HR2:=hid r2
  have HF:Hid (r9R t c=false):=by unfold Hid r9R;rw[r1,r2];rfl
  clear r1 r2
  have f0:=Qf (B:=w.heap.size+1) (w:=w.alloc (.cells #[.slice A3 t.es.length n3,.slice A4 t.ks.length n4,.slice A5 c.length n5] 29)) (b:=w.heap.size) (o:=0) (v:=.slice A3 t.es.length n3) (by simp) (by omega)
  have f1:=Qf (B:=w.heap.size+1) (w:=w.alloc (.cells #[.slice A3 t.es.length n3,.slice A4 t.ks.length n4,.slice A5 c.length n5] 29)) (b:=w.heap.size) (o:=1) (v:=.slice A4 t.ks.length n4) (by simp) (by omega)
  have f2:=Qf (B:=w.heap.size+1) (w:=w.alloc (.cells #[.slice A3 t.es.length n3,.slice A4 t.ks.length n4,.slice A5 c.length n5] 29)) (b:=w.heap.size) (o:=2) (v:=.slice A5 c.length n5) (by simp) (by omega)
  go_upto_region 1 with (fail)
  refine Qb (w.heap.size+1) (by kernel_rfl) (by kernel_rfl) ?_
  repeat (go_big_quiet_step (first|(go_at_call 48;exact Calls.far_all (by simp) (fun w' hb'=>HR1.out▸Q3 t w' _ _ (HB.out w' hb').2.1))|(go_at_call 76;exact Calls.far_all (by simp) (fun w' hb'=>HR2.out▸Q4 c _ w' (HB.out w' hb').2.2.1 (by omega)))))
  refine wpQuiet_nil ?_
  intro wq hbq
  go_wp2_with fail
  go_ret
  exact⟨Qe HF.out.symm,(HB.out _ hbq).1⟩
 have HR2:=hid r2
 have HF:Hid (r9R t c=rLeq (ctxOf t.dots) c):=by unfold Hid r9R;rw[r1,r2];rfl
 have HRN:Hid (∀ d∈t.dots,0<=d.n/\d.n<=1099511627778):=KC r1
 have HS1:=hid (Jy (Zs t 5 r1))
 have HS2:=hid (Jz r2)
 clear r1 r2 hd1 hd2
 have hr3:rLeq (ctxOf t.dots) c=rLeq (ctxOf t.dots) c:=rfl
 cases r3:rLeq (ctxOf t.dots) c
 ·have HR3:=hid r3
  clear r3
  go_upto_region 1 with (fail)
  go_region_held3 (fun w'=>w'.cell? ⟨w.heap.size,0,none⟩=some (.slice A3 t.es.length n3)/\w'.cell? ⟨w.heap.size,1,none⟩=some (.slice A4 t.ks.length n4)/\w'.cell? ⟨w.heap.size,2,none⟩=some (.slice A5 c.length n5))
   (first|go_keep|exact (HB.out _ hb4.out).2.2.2|exact (HB.out _ hb3.out).2.2.2|exact (HB.out _ hb2.out).2.2.2|exact (HB.out _ hb1.out).2.2.2)
   (first
       |(go_at_call 48;go_loud ((refine (Q3 t _ _ _ (HB.out _ (by go_grown)).2.1).mono ?_);rw[HR1.out];rintro e w1 ⟨rfl,hb⟩;have hb1:Hid (Below (w.heap.size+1) (w.alloc (.cells #[.slice A3 t.es.length n3,.slice A4 t.ks.length n4,.slice A5 c.length n5] 29)) w1):=(Below.trans (by go_grown) (hb.mono (by simp)))))
       |(go_at_call 76;go_loud ((refine (Q4 c _ w1 (HB.out _ hb1.out).2.2.1 (by omega)).mono ?_);rw[HR2.out];rintro e w2 ⟨rfl,hb⟩;have hb2:=hid (hb1.out.trans (hb.mono (by have:=hb1.out.size;simpa using this)))))
       |(go_at_call 78;go_loud ((refine (Yr t w2 _ _ (HB.out _ hb2.out).2.1 (by omega) HRN.out).mono ?_);rintro e w3 ⟨v3,rfl,ho3,hb⟩;have hb3:=hid (hb2.out.trans (hb.mono (by have:=hb2.out.size;simpa using this)));have hsl3:=hid (ho3.sl HBL.out);obtain⟨A9,c9,hv9⟩:=ho3.shape;subst hv9;clear ho3))
       |(go_at_call 77;go_loud ((refine (Y8 (ctxOf t.dots) c _ _ w3 hsl3.out (HB.out _ hb3.out).2.2.1 hcl (by omega) HS1.out HS2.out).mono ?_);rw[HR3.out];rintro e w4 ⟨rfl,hb⟩;have hb4:=hid (hb3.out.trans (hb.mono (by have:=hb3.out.size;simpa using this))))))
  go_wp2_with fail
  go_ret
  exact⟨Qe (by rw[HF.out,HR3.out]),(HB.out _ hb4.out).1⟩
 ·have HR3:=hid r3
  clear r3
  go_upto_region 1 with (fail)
  go_region_held3 (fun w'=>w'.cell? ⟨w.heap.size,0,none⟩=some (.slice A3 t.es.length n3)/\w'.cell? ⟨w.heap.size,1,none⟩=some (.slice A4 t.ks.length n4)/\w'.cell? ⟨w.heap.size,2,none⟩=some (.slice A5 c.length n5))
   (first|go_keep|exact (HB.out _ hb4.out).2.2.2|exact (HB.out _ hb3.out).2.2.2|exact (HB.out _ hb2.out).2.2.2|exact (HB.out _ hb1.out).2.2.2)
   (first
       |(go_at_call 48;go_loud ((refine (Q3 t _ _ _ (HB.out _ (by go_grown)).2.1).mono ?_);rw[HR1.out];rintro e w1 ⟨rfl,hb⟩;have hb1:Hid (Below (w.heap.size+1) (w.alloc (.cells #[.slice A3 t.es.length n3,.slice A4 t.ks.length n4,.slice A5 c.length n5] 29)) w1):=(Below.trans (by go_grown) (hb.mono (by simp)))))
       |(go_at_call 76;go_loud ((refine (Q4 c _ w1 (HB.out _ hb1.out).2.2.1 (by omega)).mono ?_);rw[HR2.out];rintro e w2 ⟨rfl,hb⟩;have hb2:=hid (hb1.out.trans (hb.mono (by have:=hb1.out.size;simpa using this)))))
       |(go_at_call 78;go_loud ((refine (Yr t w2 _ _ (HB.out _ hb2.out).2.1 (by omega) HRN.out).mono ?_);rintro e w3 ⟨v3,rfl,ho3,hb⟩;have hb3:=hid (hb2.out.trans (hb.mono (by have:=hb2.out.size;simpa using this)));have hsl3:=hid (ho3.sl HBL.out);obtain⟨A9,c9,hv9⟩:=ho3.shape;subst hv9;clear ho3))
       |(go_at_call 77;go_loud ((refine (Y8 (ctxOf t.dots) c _ _ w3 hsl3.out (HB.out _ hb3.out).2.2.1 hcl (by omega) HS1.out HS2.out).mono ?_);rw[HR3.out];rintro e w4 ⟨rfl,hb⟩;have hb4:=hid (hb3.out.trans (hb.mono (by have:=hb3.out.size;simpa using this))))))
  go_wp2_with fail
  go_ret
  exact⟨Qe (by rw[HF.out,HR3.out]),(HB.out _ hb4.out).1⟩
def sml9 (t:Tr)(c:List Sp)(n:Int):Bool:=smlB t n&&decide ((c.length:Int)<=n)
theorem X4 (t:Tr)(c:List Sp)(n:Int)(ve vk vc:Value)(w:World)(h:t.rd w w.heap.size ve vk)(hc:SlP w w.heap.size 3 SpE vc c)(hn:0<=n)(hn':n<=1000) :
  Calls Tryz.prog 35 #[.agg #[ve,vk,vc],.int .i64 n] w fun e w'=>e=.returned (.bool (sml9 t c n))/\Below w.heap.size w w':=by
 have HC:Hid (∀ w',Below w.heap.size w w'->t.rd w' w'.heap.size ve vk):=fun w' hb=>Qj hb hb.size _ _ _ h
 obtain⟨A3,n3,A4,n4,rfl,rfl⟩:=Ql h
 obtain⟨A5,n5,rfl,_,hcl,_⟩:=hc
 unfold Big at hcl
 clear h
 have hb0:Below w.heap.size w (w.alloc (.cells #[.slice A3 t.es.length n3,.slice A4 t.ks.length n4,.slice A5 c.length n5] 29)):=(Below.refl _ w).alloc (Nat.le_refl _) _
 go_enter Tryz.func35,Tryz.ntmps35
 go_wp2_with fail
 refine (XT t _ _ _ n (HC.out _ hb0) hn hn').mono ?_
 rintro e w1 ⟨rfl,hb1⟩
 rw[show decide (0<=t.room n 8)=smlB t n from rfl]
 have hB1:Below w.heap.size w w1:=hb0.trans (hb1.mono (by simp))
 have c2:w1.cell? ⟨w.heap.size,2,none⟩=some (.slice A5 c.length n5):=by rw[hb1.cell (p:=⟨w.heap.size,2,none⟩) (by simp),World.cell?_alloc_new];rfl
 cases hs:smlB t n
 ·have HF:Hid (sml9 t c n=false):=by unfold Hid sml9;rw[hs];rfl
  clear hs
  go_wp2_with fail
  go_ret
  exact⟨Qe HF.out.symm,hB1⟩
 ·have HF:Hid (sml9 t c n=decide ((c.length:Int)<=n)):=by unfold Hid sml9;rw[hs];rfl
  clear hs
  go_wp2_with fail
  go_ret
  exact⟨Qe HF.out.symm,hB1⟩
theorem VJ (ca cb:List Sp)(n:Nat)(a b:Tr)(va ka vb kb vca vcb:Value)(w:World)(ha:a.rd w w.heap.size va ka)(hb:b.rd w w.heap.size vb kb)(hca:SlP w w.heap.size 3 SpE vca ca)(hcb:SlP w w.heap.size 3 SpE vcb cb)(hoa:a.Ord)(hob:b.Ord)(hda:a.dep<=n)(hdb:b.dep<=n)(hza:a.sz<=100000)(hzb:b.sz<=100000)(hra:Qk ca=true)(hrb:Qk cb=true)(hN1:ca.length<=20000)(hN2:cb.length<=20000) :
  Calls Tryz.prog 67 #[.agg #[va,ka,vca],.agg #[vb,kb,vcb]] w (RetC w (joinT n ca cb a b) (ctxBy ca cb 0)):=by
 have HA:=hid ha
 have HB:=hid hb
 have HCA:Hid (∀ w',Below w.heap.size w w'->SlP w' w'.heap.size 3 SpE vca ca):=fun w' hb=>hca.imp hb hb.size fun _ _ _ h=>h
 have HCB:Hid (∀ w',Below w.heap.size w w'->SlP w' w'.heap.size 3 SpE vcb cb):=fun w' hb=>hcb.imp hb hb.size fun _ _ _ h=>h
 have HR1:=hid hra
 have HR2:=hid hrb
 have hul:=Zq ca cb 0 4
 have HUL:Hid ((ctxBy ca cb 0).length<=Big):=by unfold Hid ctxBy Big;omega
 obtain⟨A1,n1,A2,n2,rfl,rfl⟩:=Ql ha
 obtain⟨A3,n3,A4,n4,rfl,rfl⟩:=Ql hb
 obtain⟨A5,n5,rfl,_⟩:=hca
 obtain⟨A6,n6,rfl,_⟩:=hcb
 have HX:Hid (∀ W,Below (w.heap.size+3) (((w.alloc (.cells #[.slice A1 a.es.length n1,.slice A2 a.ks.length n2,.slice A5 ca.length n5] 29)).alloc (.cells #[.slice A3 b.es.length n3,.slice A4 b.ks.length n4,.slice A6 cb.length n6] 29)).alloc (.cells #[.slice none 0 0,.slice none 0 0,.slice none 0 0] 29)) W->Below w.heap.size w W/\W.heap[w.heap.size+2]?=some (.cells #[.slice none 0 0,.slice none 0 0,.slice none 0 0] 29 (0,0))/\w.heap.size+3<=W.heap.size/\(W.cell? ⟨w.heap.size,0,none⟩=some (.slice A1 a.es.length n1)/\W.cell? ⟨w.heap.size,1,none⟩=some (.slice A2 a.ks.length n2)/\W.cell? ⟨w.heap.size,2,none⟩=some (.slice A5 ca.length n5)/\W.cell? ⟨w.heap.size+1,0,none⟩=some (.slice A3 b.es.length n3)/\W.cell? ⟨w.heap.size+1,1,none⟩=some (.slice A4 b.ks.length n4)/\W.cell? ⟨w.heap.size+1,2,none⟩=some (.slice A6 cb.length n6))):=fun W hW=>by
  have g0:W.heap[w.heap.size]?=some (.cells #[.slice A1 a.es.length n1,.slice A2 a.ks.length n2,.slice A5 ca.length n5] 29 (0,0)):=(hW.block _ (by omega)).trans ((Qh (by simp<;>omega)).trans ((Qh (by simp)).trans (Qg rfl)))
  have g1:W.heap[w.heap.size+1]?=some (.cells #[.slice A3 b.es.length n3,.slice A4 b.ks.length n4,.slice A6 cb.length n6] 29 (0,0)):=(hW.block _ (by omega)).trans ((Qh (by simp)).trans (Qg (by simp)))
  have g2:W.heap[w.heap.size+2]?=some (.cells #[.slice none 0 0,.slice none 0 0,.slice none 0 0] 29 (0,0)):=(hW.block _ (by omega)).trans (Qg (by simp))
  exact⟨((((Below.refl _ w).alloc (Nat.le_refl _) _).alloc (by simp) _).alloc (by simp;omega) _).trans (hW.mono (by omega)),g2,by have:=hW.size;simpa using this,Qa (i:=0) g0,Qa (i:=1) g0,Qa (i:=2) g0,Qa (i:=0) g1,Qa (i:=1) g1,Qa (i:=2) g1⟩
 have hneA:w.heap.size+1+1≠w.heap.size:=by omega
 have hneB:w.heap.size≠w.heap.size+1+1:=by omega
 clear ha hb
 go_enter Tryz.func67,Tryz.ntmps67
 go_upto_region 1 with (fail)
 go_region_held3 (fun w'=>w'.cell? ⟨w.heap.size,0,none⟩=some (.slice A1 a.es.length n1)/\w'.cell? ⟨w.heap.size,1,none⟩=some (.slice A2 a.ks.length n2)/\w'.cell? ⟨w.heap.size,2,none⟩=some (.slice A5 ca.length n5)/\w'.cell? ⟨w.heap.size+1,0,none⟩=some (.slice A3 b.es.length n3)/\w'.cell? ⟨w.heap.size+1,1,none⟩=some (.slice A4 b.ks.length n4)/\w'.cell? ⟨w.heap.size+1,2,none⟩=some (.slice A6 cb.length n6))
  (first|go_keep|exact (HX.out _ hbk2.out).2.2.2|exact (HX.out _ hbk1.out).2.2.2)
  (first
      |(go_at_call 111;go_loud ((refine (KE ca cb (by omega) (by omega) n a b _ _ _ _ _ _ _ (Qj (HX.out _ (by go_grown)).1 (HX.out _ (by go_grown)).1.size _ _ _ HA.out) (Qj (HX.out _ (by go_grown)).1 (HX.out _ (by go_grown)).1.size _ _ _ HB.out) (HCA.out _ (HX.out _ (by go_grown)).1) (HCB.out _ (HX.out _ (by go_grown)).1) hoa hob hda hdb hza hzb).mono ?_);rintro e w1 ⟨ve1,vk1,rfl,hrd1,hb⟩;obtain⟨Av,nv,Aw,nw,rfl,rfl⟩:=Qt hrd1;have HR:=hid hrd1;have hbk1:Hid (Below (w.heap.size+3) (((w.alloc (.cells #[.slice A1 a.es.length n1,.slice A2 a.ks.length n2,.slice A5 ca.length n5] 29)).alloc (.cells #[.slice A3 b.es.length n3,.slice A4 b.ks.length n4,.slice A6 cb.length n6] 29)).alloc (.cells #[.slice none 0 0,.slice none 0 0,.slice none 0 0] 29)) w1):=(Below.trans (by go_grown) (hb.mono (by simp)));clear hrd1 hb))
      |(go_at_call 112;go_loud ((refine (KI ca cb _ _ w1 (HCA.out _ (HX.out _ hbk1.out).1) (HCB.out _ (HX.out _ hbk1.out).1) HR1.out HR2.out hN1 hN2).mono ?_);rintro e w2 ⟨v2,rfl,ho2,hb2⟩;obtain⟨A7,c7,hv7⟩:=ho2.shape;subst hv7;have HO2:=hid ho2;have hbk2:=hid (hbk1.out.trans (hb2.mono (HX.out _ hbk1.out).2.2.1));have HG2:=hid (HX.out _ hbk2.out).2.1;have k0:w2.cell? ⟨w.heap.size+2,0,none⟩=some (.slice none 0 0):=Qa (i:=0) HG2.out;have k1:w2.cell? ⟨w.heap.size+2,1,none⟩=some (.slice none 0 0):=Qa (i:=1) HG2.out;have k2:w2.cell? ⟨w.heap.size+2,2,none⟩=some (.slice none 0 0):=Qa (i:=2) HG2.out;have z0:=Qc (i:=0) HG2.out;have z1:=Qc (i:=1) HG2.out;have z2:=Qc (i:=2) HG2.out;have HB2:=hid hb2;clear ho2 hb2)))
 all_goals (
  go_wp2_with fail
  have hs2:w.heap.size+3<=w2.heap.size:=(HX.out _ hbk2.out).2.2.1
  have hs1:w.heap.size+3<=w1.heap.size:=(HX.out _ hbk1.out).2.2.1
  have hs12:=HB2.out.size
  obtain⟨r0,r1,r2,hK,hS⟩:=box3 HG2.out (.slice Av (joinT n ca cb a b).es.length nv) (.slice Aw (joinT n ca cb a b).ks.length nw) (.slice A7 (ctxBy ca cb 0).length c7)
  have hBW:Below w.heap.size w (((w2.setCell ⟨w.heap.size+2,0,none⟩ (.slice Av (joinT n ca cb a b).es.length nv)).setCell ⟨w.heap.size+2,1,none⟩ (.slice Aw (joinT n ca cb a b).ks.length nw)).setCell ⟨w.heap.size+2,2,none⟩ (.slice A7 (ctxBy ca cb 0).length c7)):=(((HX.out _ hbk2.out).1.setCell (by simp) _).setCell (by simp) _).setCell (by simp) _
  clear k0 k1 k2 z0 z1 z2
  generalize (((w2.setCell ⟨w.heap.size+2,0,none⟩ (.slice Av (joinT n ca cb a b).es.length nv)).setCell ⟨w.heap.size+2,1,none⟩ (.slice Aw (joinT n ca cb a b).ks.length nw)).setCell ⟨w.heap.size+2,2,none⟩ (.slice A7 (ctxBy ca cb 0).length c7))=W at *
  refine bodyPost_ret (v:=.agg #[.slice Av (joinT n ca cb a b).es.length nv,.slice Aw (joinT n ca cb a b).ks.length nw,.slice A7 (ctxBy ca cb 0).length c7]) (by simp[results,Tryz.results67,go_sem,r0,r1,r2]) rfl ⟨_,_,_,rfl,?_,?_,hBW⟩
  ·exact Zi (fun b hb=>(hK b (by have:=hb.1;simp only[World.size_alloc,World.size_drew]at this;omega)).trans (HB2.out.block b hb.2)) (fun b hb=>⟨by have:=hb.1;simp only[World.size_alloc,World.size_drew]at this;omega,by have:=hb.2;omega⟩) _ _ _ HR.out
  ·exact (HO2.out.sla HUL.out).up (fun b hb=>hK b (by have:=hb.1;omega)) (fun b hb=>⟨by have:=hb.1;omega,by have:=hb.2.1;omega⟩) (fun _ _ _ h=>h))
theorem ZV {t:Tr}{c:List Sp}(h:caR t c=true):t.right 5=true:=by unfold caR at h;simp at h;exact h.1
theorem X5 {t:Tr}{c:List Sp}(h:caR t c=true):Qk c=true:=by rw[qZf]at h;unfold r9R at h;simp at h;exact h.2.1
theorem VK {t:Tr}{c:List Sp}(h:caR t c=true):t.Ord:=Yt t 5 (ZV h)
theorem JA {t:Tr}{c:List Sp}(h:caR t c=true):t.dep<=6:=by have:=Vz t 5 (ZV h);omega
def jnE (a b:Tr)(ca cb:List Sp):Int:=if caR a ca&&caR b cb then 0 else 1
def jnT (a b:Tr)(ca cb:List Sp):Tr:=if caR a ca&&caR b cb then joinT 6 ca cb a b else .mk [] []
def jnC (a b:Tr)(ca cb:List Sp):List Sp:=if caR a ca&&caR b cb then ctxBy ca cb 0 else []
theorem VL (ca cb:List Sp)(a b:Tr)(va ka vb kb vca vcb:Value)(w:World)(ha:a.rd w w.heap.size va ka)(hb:b.rd w w.heap.size vb kb)(hca:SlP w w.heap.size 3 SpE vca ca)(hcb:SlP w w.heap.size 3 SpE vcb cb)(hza:a.sz<=4000)(hzb:b.sz<=4000)(hN1:ca.length<=20000)(hN2:cb.length<=20000) :
  Calls Tryz.prog 33 #[.agg #[va,ka,vca],.agg #[vb,kb,vcb]] w (RetCE w (jnT a b ca cb) (jnC a b ca cb) (jnE a b ca cb)):=by
 have HA:=hid ha
 have HB:=hid hb
 have HCA:Hid (∀ w',Below w.heap.size w w'->SlP w' w'.heap.size 3 SpE vca ca):=fun w' hb=>hca.imp hb hb.size fun _ _ _ h=>h
 have HCB:Hid (∀ w',Below w.heap.size w w'->SlP w' w'.heap.size 3 SpE vcb cb):=fun w' hb=>hcb.imp hb hb.size fun _ _ _ h=>h
 obtain⟨A1,n1,A2,n2,rfl,rfl⟩:=Ql ha
 obtain⟨A3,n3,A4,n4,rfl,rfl⟩:=Ql hb
 obtain⟨A5,n5,rfl,_⟩:=hca
 obtain⟨A6,n6,rfl,_⟩:=hcb
 have HX:Hid (∀ W,Below (w.heap.size+3) (((w.alloc (.cells #[.slice A1 a.es.length n1,.slice A2 a.ks.length n2,.slice A5 ca.length n5] 29)).alloc (.cells #[.slice A3 b.es.length n3,.slice A4 b.ks.length n4,.slice A6 cb.length n6] 29)).alloc (.cells #[.slice none 0 0,.slice none 0 0,.slice none 0 0] 29)) W->Below w.heap.size w W/\W.heap[w.heap.size+2]?=some (.cells #[.slice none 0 0,.slice none 0 0,.slice none 0 0] 29 (0,0))/\w.heap.size+3<=W.heap.size/\(W.cell? ⟨w.heap.size,0,none⟩=some (.slice A1 a.es.length n1)/\W.cell? ⟨w.heap.size,1,none⟩=some (.slice A2 a.ks.length n2)/\W.cell? ⟨w.heap.size,2,none⟩=some (.slice A5 ca.length n5)/\W.cell? ⟨w.heap.size+1,0,none⟩=some (.slice A3 b.es.length n3)/\W.cell? ⟨w.heap.size+1,1,none⟩=some (.slice A4 b.ks.length n4)/\W.cell? ⟨w.heap.size+1,2,none⟩=some (.slice A6 cb.length n6))):=fun W hW=>by
  have g0:W.heap[w.heap.size]?=some (.cells #[.slice A1 a.es.length n1,.slice A2 a.ks.length n2,.slice A5 ca.length n5] 29 (0,0)):=(hW.block _ (by omega)).trans ((Qh (by simp<;>omega)).trans ((Qh (by simp)).trans (Qg rfl)))
  have g1:W.heap[w.heap.size+1]?=some (.cells #[.slice A3 b.es.length n3,.slice A4 b.ks.length n4,.slice A6 cb.length n6] 29 (0,0)):=(hW.block _ (by omega)).trans ((Qh (by simp)).trans (Qg (by simp)))
  have g2:W.heap[w.heap.size+2]?=some (.cells #[.slice none 0 0,.slice none 0 0,.slice none 0 0] 29 (0,0)):=(hW.block _ (by omega)).trans (Qg (by simp))
  exact⟨((((Below.refl _ w).alloc (Nat.le_refl _) _).alloc (by simp) _).alloc (by simp;omega) _).trans (hW.mono (by omega)),g2,by have:=hW.size;simpa using this,Qa (i:=0) g0,Qa (i:=1) g0,Qa (i:=2) g0,Qa (i:=0) g1,Qa (i:=1) g1,Qa (i:=2) g1⟩
 clear ha hb
 go_enter Tryz.func33,Tryz.ntmps33
 cases hc1:caR a ca
 ·have HR1:=hid hc1
  have HR2:Hid (caR b cb=caR b cb):=rfl
  have HE:Hid (jnE a b ca cb=1):=by unfold Hid jnE;rw[hc1];rfl
  have HTT:Hid (jnT a b ca cb=.mk [] []):=by unfold Hid jnT;rw[hc1];rfl
  have HCC:Hid (jnC a b ca cb=[]):=by unfold Hid jnC;rw[hc1];rfl
  clear hc1
  have hB0:=(HX.out _ (Below.refl _ _)).1
  go_wp2_with fail
  refine (QF a ca _ _ _ _ (Qj hB0 hB0.size _ _ _ HA.out) (HCA.out _ hB0) hza hN1).mono ?_
  rw[HR1.out]
  rintro e w1 ⟨rfl,hb1⟩
  have hbq1:=hid (hb1.mono (show w.heap.size+3<=_ by simp))
  clear hb1 hB0
  obtain⟨hB1,hG,hsq,q0,q1,q2,q3,q4,q5⟩:=HX.out w1 hbq1.out
  have HG:=hid hG
  have k0:(w1).cell? ⟨w.heap.size+2,0,none⟩=some (.slice none 0 0):=Qa (i:=0) HG.out
  have k1:(w1).cell? ⟨w.heap.size+2,1,none⟩=some (.slice none 0 0):=Qa (i:=1) HG.out
  have k2:(w1).cell? ⟨w.heap.size+2,2,none⟩=some (.slice none 0 0):=Qa (i:=2) HG.out
  have z0:=Qc (i:=0) HG.out
  have z1:=Qc (i:=1) HG.out
  have z2:=Qc (i:=2) HG.out
  clear hG
  go_wp2_with fail
  obtain⟨r0,r1,r2,hK,hS⟩:=box3 HG.out (.slice none 0 0) (.slice none 0 0) (.slice none 0 0)
  have hBW:=((hB1.setCell (p:=⟨w.heap.size+2,0,none⟩) (by simp) (.slice none 0 0)).setCell (p:=⟨w.heap.size+2,1,none⟩) (by simp) (.slice none 0 0)).setCell (p:=⟨w.heap.size+2,2,none⟩) (by simp) (.slice none 0 0)
  refine bodyPost_ret (v:=.tuple #[.agg #[.slice none 0 0,.slice none 0 0,.slice none 0 0],.int .i64 1]) (by simp[results,Tryz.results33,go_sem,r0,r1,r2]) rfl ⟨_,_,_,by rw[HE.out],?_,?_,hBW⟩
  ·rw[HTT.out];exact Xo _ _
  ·rw[HCC.out];exact SlA.nil
 cases hc2:caR b cb
 ·have HR1:=hid hc1
  have HR2:=hid hc2
  have HE:Hid (jnE a b ca cb=1):=by unfold Hid jnE;rw[hc1,hc2];rfl
  have HTT:Hid (jnT a b ca cb=.mk [] []):=by unfold Hid jnT;rw[hc1,hc2];rfl
  have HCC:Hid (jnC a b ca cb=[]):=by unfold Hid jnC;rw[hc1,hc2];rfl
  clear hc1 hc2
  have hB0:=(HX.out _ (Below.refl _ _)).1
  go_wp2_with fail
  refine (QF a ca _ _ _ _ (Qj hB0 hB0.size _ _ _ HA.out) (HCA.out _ hB0) hza hN1).mono ?_
  rw[HR1.out]
  rintro e w1 ⟨rfl,hb1⟩
  have hbq1:=hid (hb1.mono (show w.heap.size+3<=_ by simp))
  clear hb1 hB0
  obtain⟨hB1,hG,hsq,q0,q1,q2,q3,q4,q5⟩:=HX.out w1 hbq1.out
  have HG:=hid hG
  have k0:(w1).cell? ⟨w.heap.size+2,0,none⟩=some (.slice none 0 0):=Qa (i:=0) HG.out
  have k1:(w1).cell? ⟨w.heap.size+2,1,none⟩=some (.slice none 0 0):=Qa (i:=1) HG.out
  have k2:(w1).cell? ⟨w.heap.size+2,2,none⟩=some (.slice none 0 0):=Qa (i:=2) HG.out
  have z0:=Qc (i:=0) HG.out
  have z1:=Qc (i:=1) HG.out
  have z2:=Qc (i:=2) HG.out
  clear hG
  go_wp2_with fail
  refine (QF b cb _ _ _ w1 (Qj hB1 hB1.size _ _ _ HB.out) (HCB.out _ hB1) hzb hN2).mono ?_
  rw[HR2.out]
  rintro e w2 ⟨rfl,hb2⟩
  have hbq2:=hid (hbq1.out.trans (hb2.mono hsq))
  clear hb2 hB1 k0 k1 k2 z0 z1 z2 q0 q1 q2 q3 q4 q5 hsq HG
  obtain⟨hB1,hG,hsq,q0,q1,q2,q3,q4,q5⟩:=HX.out w2 hbq2.out
  have HG:=hid hG
  have k0:(w2).cell? ⟨w.heap.size+2,0,none⟩=some (.slice none 0 0):=Qa (i:=0) HG.out
  have k1:(w2).cell? ⟨w.heap.size+2,1,none⟩=some (.slice none 0 0):=Qa (i:=1) HG.out
  have k2:(w2).cell? ⟨w.heap.size+2,2,none⟩=some (.slice none 0 0):=Qa (i:=2) HG.out
  have z0:=Qc (i:=0) HG.out
  have z1:=Qc (i:=1) HG.out
  have z2:=Qc (i:=2) HG.out
  clear hG
  go_wp2_with fail
  obtain⟨r0,r1,r2,hK,hS⟩:=box3 HG.out (.slice none 0 0) (.slice none 0 0) (.slice none 0 0)
  have hBW:=((hB1.setCell (p:=⟨w.heap.size+2,0,none⟩) (by simp) (.slice none 0 0)).setCell (p:=⟨w.heap.size+2,1,none⟩) (by simp) (.slice none 0 0)).setCell (p:=⟨w.heap.size+2,2,none⟩) (by simp) (.slice none 0 0)
  refine bodyPost_ret (v:=.tuple #[.agg #[.slice none 0 0,.slice none 0 0,.slice none 0 0],.int .i64 1]) (by simp[results,Tryz.results33,go_sem,r0,r1,r2]) rfl ⟨_,_,_,by rw[HE.out],?_,?_,hBW⟩
  ·rw[HTT.out];exact Xo _ _
  ·rw[HCC.out];exact SlA.nil
 ·have HR1:=hid hc1
  have HR2:=hid hc2
  have HE:Hid (jnE a b ca cb=0):=by unfold Hid jnE;rw[hc1,hc2];rfl
  have HTT:Hid (jnT a b ca cb=joinT 6 ca cb a b):=by unfold Hid jnT;rw[hc1,hc2];rfl
  have HCC:Hid (jnC a b ca cb=ctxBy ca cb 0):=by unfold Hid jnC;rw[hc1,hc2];rfl
  have HOA:=hid (VK hc1)
  have HOB:=hid (VK hc2)
  have HDA:=hid (JA hc1)
  have HDB:=hid (JA hc2)
  have HPA:=hid (X5 hc1)
  have HPB:=hid (X5 hc2)
  clear hc1 hc2
  have hB0:=(HX.out _ (Below.refl _ _)).1
  go_wp2_with fail
  refine (QF a ca _ _ _ _ (Qj hB0 hB0.size _ _ _ HA.out) (HCA.out _ hB0) hza hN1).mono ?_
  rw[HR1.out]
  rintro e w1 ⟨rfl,hb1⟩
  have hbq1:=hid (hb1.mono (show w.heap.size+3<=_ by simp))
  clear hb1 hB0
  obtain⟨hB1,hG,hsq,q0,q1,q2,q3,q4,q5⟩:=HX.out w1 hbq1.out
  have HG:=hid hG
  have k0:(w1).cell? ⟨w.heap.size+2,0,none⟩=some (.slice none 0 0):=Qa (i:=0) HG.out
  have k1:(w1).cell? ⟨w.heap.size+2,1,none⟩=some (.slice none 0 0):=Qa (i:=1) HG.out
  have k2:(w1).cell? ⟨w.heap.size+2,2,none⟩=some (.slice none 0 0):=Qa (i:=2) HG.out
  have z0:=Qc (i:=0) HG.out
  have z1:=Qc (i:=1) HG.out
  have z2:=Qc (i:=2) HG.out
  clear hG
  go_wp2_with fail
  refine (QF b cb _ _ _ w1 (Qj hB1 hB1.size _ _ _ HB.out) (HCB.out _ hB1) hzb hN2).mono ?_
  rw[HR2.out]
  rintro e w2 ⟨rfl,hb2⟩
  have hbq2:=hid (hbq1.out.trans (hb2.mono hsq))
  clear hb2 hB1 k0 k1 k2 z0 z1 z2 q0 q1 q2 q3 q4 q5 hsq HG
  obtain⟨hB1,hG,hsq,q0,q1,q2,q3,q4,q5⟩:=HX.out w2 hbq2.out
  have HG:=hid hG
  have k0:(w2).cell? ⟨w.heap.size+2,0,none⟩=some (.slice none 0 0):=Qa (i:=0) HG.out
  have k1:(w2).cell? ⟨w.heap.size+2,1,none⟩=some (.slice none 0 0):=Qa (i:=1) HG.out
  have k2:(w2).cell? ⟨w.heap.size+2,2,none⟩=some (.slice none 0 0):=Qa (i:=2) HG.out
  have z0:=Qc (i:=0) HG.out
  have z1:=Qc (i:=1) HG.out
  have z2:=Qc (i:=2) HG.out
  clear hG
  go_wp2_with fail
  refine (VJ ca cb 6 a b _ _ _ _ _ _ w2 (Qj hB1 hB1.size _ _ _ HA.out) (Qj hB1 hB1.size _ _ _ HB.out) (HCA.out _ hB1) (HCB.out _ hB1) HOA.out HOB.out HDA.out HDB.out (by omega) (by omega) HPA.out HPB.out hN1 hN2).mono ?_
  rintro e w5 ⟨ve,vk,vc,rfl,hrd5,hsl5,hb5⟩
  obtain⟨A7,n7,A8,n8,rfl,rfl⟩:=Qt hrd5
  have HS5:=hid hsl5
  obtain⟨A9,n9,hv9,_⟩:=hsl5
  subst hv9
  have HR5:=hid hrd5
  have hs25:=hb5.size
  have hs2:=hsq
  have hbq5:=hid (hbq2.out.trans (hb5.mono hsq))
  clear hrd5 hb5 hB1 k0 k1 k2 z0 z1 z2 q0 q1 q2 q3 q4 q5 hsq HG
  obtain⟨hB1,hG,hsq,q0,q1,q2,q3,q4,q5⟩:=HX.out w5 hbq5.out
  have HG:=hid hG
  have k0:(w5).cell? ⟨w.heap.size+2,0,none⟩=some (.slice none 0 0):=Qa (i:=0) HG.out
  have k1:(w5).cell? ⟨w.heap.size+2,1,none⟩=some (.slice none 0 0):=Qa (i:=1) HG.out
  have k2:(w5).cell? ⟨w.heap.size+2,2,none⟩=some (.slice none 0 0):=Qa (i:=2) HG.out
  have z0:=Qc (i:=0) HG.out
  have z1:=Qc (i:=1) HG.out
  have z2:=Qc (i:=2) HG.out
  clear hG
  go_wp2_with fail
  obtain⟨r0,r1,r2,hK,hS⟩:=box3 HG.out (.slice A7 (joinT 6 ca cb a b).es.length n7) (.slice A8 (joinT 6 ca cb a b).ks.length n8) (.slice A9 (ctxBy ca cb 0).length n9)
  have hBW:Below w.heap.size w (((w5.setCell ⟨w.heap.size+2,0,none⟩ (.slice A7 (joinT 6 ca cb a b).es.length n7)).setCell ⟨w.heap.size+2,1,none⟩ (.slice A8 (joinT 6 ca cb a b).ks.length n8)).setCell ⟨w.heap.size+2,2,none⟩ (.slice A9 (ctxBy ca cb 0).length n9)):=((hB1.setCell (by simp) _).setCell (by simp) _).setCell (by simp) _
  clear k0 k1 k2 z0 z1 z2
  generalize (((w5.setCell ⟨w.heap.size+2,0,none⟩ (.slice A7 (joinT 6 ca cb a b).es.length n7)).setCell ⟨w.heap.size+2,1,none⟩ (.slice A8 (joinT 6 ca cb a b).ks.length n8)).setCell ⟨w.heap.size+2,2,none⟩ (.slice A9 (ctxBy ca cb 0).length n9))=W at *
  refine bodyPost_ret (v:=.tuple #[.agg #[.slice A7 (joinT 6 ca cb a b).es.length n7,.slice A8 (joinT 6 ca cb a b).ks.length n8,.slice A9 (ctxBy ca cb 0).length n9],.int .i64 0]) (by simp[results,Tryz.results33,go_sem,r0,r1,r2]) rfl ⟨_,_,_,by rw[HE.out],?_,?_,hBW⟩
  ·rw[HTT.out]
   exact Zi (fun b hb=>hK b (by have:=hb.1;omega)) (fun b hb=>⟨by have:=hb.1;omega,by have:=hb.2;omega⟩) _ _ _ HR5.out
  ·rw[HCC.out]
   exact HS5.out.up (fun b hb=>hK b (by have:=hb.1;omega)) (fun b hb=>⟨by have:=hb.1;omega,by have:=hb.2;omega⟩) (fun _ _ _ h=>h)
/-! contexts by their dots -/
theorem KN (a b:List Sp)(how:Int){i:Nat}(hi:i<4):partL (ctxBy a b how) i=byL (partL a i) (partL b i) how:=by
 rw[YI,Zf,if_pos hi]
theorem Zt {c:List Sp}(h:Qk c=true){i:Nat}(hi:i<4):∀ r∈partL c i,runOk r:=Xs _ none (QT h hi)
theorem qQt {a b:List Sp}(ha:Qk a=true)(hb:Qk b=true)(how:Int):Qk (ctxBy a b how)=true:=by
 rw[YI]
 exact YG fun i hi=>(ZR how (Zt ha hi) (Zt hb hi)).1
theorem qZq {a b:List Sp}(ha:Qk a=true)(hb:Qk b=true)(how:Int){d:Dt}(hd:d.right=true):hasC (ctxBy a b how) d=inn how (hasC a d) (hasC b d):=by
 have h1:=(qQr hd).1
 obtain⟨i,hi⟩:∃ i:Nat,(i:Int)=d.dc:=⟨d.dc.toNat,by omega⟩
 have h4:i<4:=by omega
 unfold hasC
 rw[hd,←hi,KN a b how h4,(ZR how (Zt ha h4) (Zt hb h4)).2]
 simp
theorem KO {c:List Sp}{d:Dt}(h:hasC c d=true):d.right=true:=by unfold hasC at h;rw[Bool.and_eq_true]at h;exact h.1
theorem KP {a b:List Sp}(ha:Qk a=true)(hb:Qk b=true)(d:Dt):hasC (ctxBy a b 2) d=(hasC a d&&!hasC b d):=by
 cases hd:d.right
 ·unfold hasC;simp[hd]
 ·rw[qZq ha hb 2 hd];rfl
theorem VM {l:List (Int×Int)}(h:∀ r∈l,runOk r){n:Int}(hn:hasL l n=true):1<=n/\n<=1099511627776:=by
 unfold hasL at hn
 obtain⟨r,hr,h1⟩:=List.any_eq_true.1 hn
 have:=h r hr
 unfold runOk at this
 unfold inR at h1
 simp at h1
 omega
theorem qQu {i:Nat}(hi:i<4){n:Int}(h:1<=n/\n<=1099511627776):(⟨i,n⟩:Dt).right=true:=by
 unfold Dt.right;simp;omega
theorem VN {a b:List Sp}(ha:Qk a=true)(hb:Qk b=true)(h:∀ d,hasC a d=hasC b d):a=b:=by
 rw[←Y5 ha,←Y5 hb]
 refine qQl fun i hi=>Yz _ _ none none (QT ha hi) (QT hb hi) fun n=>?_
 by_cases hn:1<=n/\n<=1099511627776
 ·have:=h ⟨i,n⟩
  unfold hasC at this
  rw[qQu hi hn]at this
  simpa using this
 ·have e1:hasL (partL a i) n=false:=by
   cases hc:hasL (partL a i) n
   ·rfl
   ·exact absurd (VM (Zt ha hi) hc) hn
  have e2:hasL (partL b i) n=false:=by
   cases hc:hasL (partL b i) n
   ·rfl
   ·exact absurd (VM (Zt hb hi) hc) hn
  rw[e1,e2]
theorem X6:Qk []=true:=by kernel_rfl
theorem Ke (d:Dt):hasC [] d=false:=by unfold hasC partL hasL;simp
theorem qZr {c:List Sp}(hc:Qk c=true):c=[]↔∀ d,hasC c d=false:=by
 constructor
 ·rintro rfl;exact Ke
 ·intro h;exact VN hc X6 fun d=>by rw[h,Ke]
theorem Kf {a b:List Sp}(ha:Qk a=true)(hb:Qk b=true):cLeq a b=true↔∀ d,hasC a d=true->hasC b d=true:=by
 unfold cLeq
 rw[ha,hb,Bool.true_and,Bool.true_and,decide_eq_true_eq,List.length_eq_zero_iff,qZr (qQt ha hb 2)]
 refine forall_congr' fun d=>?_
 rw[KP ha hb]
 cases hasC a d<;>cases hasC b d<;>simp
/-! right trees by their leaves -/
theorem VO:∀ (es:List En) (p:Option Dt),(es.Pairwise fun a b=>a.dot.lt b.dot=true)->(∀ e∈es,okP p e.dot=true)->(∀ e∈es,e.right=true)->entsB p es=true
 |[],_,_,_,_=>by unfold entsB;rfl
 |e :: es,p,h,h1,h2=>by
  obtain⟨h3,h4⟩:=List.pairwise_cons.1 h
  rw[QR,h2 e (by simp),h1 e (by simp),VO es (some e.dot) h4 (fun a ha=>h3 a ha) fun a ha=>h2 a (by simp[ha])];rfl
theorem VP (d:Int):∀ (ks:List Kd) (p:Option ByteArray),(ks.Pairwise fun a b=>ltS a.1 b.1=true)->(∀ x∈ks,okK p x.1=true)->(∀ k t,(k,t)∈ks->keyB k=true/\t.empty=false/\t.right (d-1)=true)->Tr.rightL p ks d=true
 |[],p,_,_,_=>by cases p<;>rw[Tr.rightL]
 |(k,t) :: ks,p,h,h1,h2=>by
  obtain⟨h3,h4⟩:=List.pairwise_cons.1 h
  obtain⟨g1,g2,g3⟩:=h2 k t (by simp)
  rw[QE,g1,g2,g3,h1 (k,t) (by simp),VP d ks (some k) h4 (fun a ha=>h3 a ha) fun k' t' hm=>h2 k' t' (by simp[hm])];rfl
def LfR (n:Int)(x:Lf):Prop:=(x.1.length:Int)+1<=n/\(∀ k∈x.1,keyB k=true)/\x.2.right=true
theorem Yd:∀ (t:Tr) (n:Int),t.right n=true->∀ x∈t.lvs [],LfR n x:=by
 intro t
 induction t using Tr.ind with
 |h es ks ih=>
 intro n h x hx
 rw[Tr.right,Bool.and_eq_true,Bool.and_eq_true]at h
 have hn:=of_decide_eq_true h.1.1
 obtain⟨p,e⟩:=x
 match p with
 |[]=>
  have he:=QO.1 hx
  refine⟨by simpa using hn,by simp,?_⟩
  have:∀ (es:List En) (p:Option Dt),entsB p es=true->∀ e∈es,e.right=true:=by
   intro es
   induction es with
   |nil=>intro _ _ _ h;cases h
   |cons y es ih=>
    intro p h e he
    rw[QR,Bool.and_eq_true,Bool.and_eq_true]at h
    rcases List.mem_cons.1 he with rfl|he
    ·exact h.1.1
    ·exact ih _ h.2 e he
  exact this es none h.1.2 e he
 |k :: qs=>
  obtain⟨t,hm,hx⟩:=Qq.1 hx
  have hk:∀ (ks:List Kd) (p:Option ByteArray),Tr.rightL p ks n=true->∀ k t,(k,t)∈ks->keyB k=true/\t.right (n-1)=true:=by
   intro ks
   induction ks with
   |nil=>intro _ _ _ _ h;cases h
   |cons y ks ih=>
    obtain⟨y1,y2⟩:=y
    intro p h k t he
    rw[QE,Bool.and_eq_true,Bool.and_eq_true,Bool.and_eq_true,Bool.and_eq_true]at h
    obtain⟨⟨⟨⟨a1,a2⟩,a3⟩,a4⟩,a5⟩:=h
    rcases List.mem_cons.1 he with he|he
    ·cases he;exact⟨a1,a4⟩
    ·exact ih _ a5 k t he
  obtain⟨h1,h2⟩:=hk ks none h.2 k t hm
  obtain⟨g1,g2,g3⟩:=ih k t hm _ h2 _ hx
  exact⟨by simp at g1 ⊢;omega,fun q hq=>by
   rcases List.mem_cons.1 hq with rfl|hq
   ·exact h1
   ·exact g2 q hq,g3⟩
theorem Xt:∀ (t:Tr) (n:Int),1<=n->t.Ord->(∀ x∈t.lvs [],LfR n x)->t.right n=true:=by
 intro t
 induction t using Tr.ind with
 |h es ks ih=>
 intro n hn ho hl
 obtain⟨h1,h2,h3⟩:=QX.1 ho
 rw[Tr.right,Bool.and_eq_true,Bool.and_eq_true]
 refine⟨⟨by simpa using hn,VO es none h1 (fun _ _=>rfl) fun e he=>(hl ([],e) (QO.2 he)).2.2⟩,VP n ks none h2 (fun _ _=>rfl) fun k t hm=>?_⟩
 obtain⟨g1,g2,g3⟩:=h3 k t hm
 have hsub:∀ x∈t.lvs [],LfR (n-1) x/\keyB k=true:=by
  rintro⟨qs,e⟩ hx
  obtain⟨f1,f2,f3⟩:=hl (k :: qs,e) (Qq.2 ⟨t,hm,hx⟩)
  exact⟨⟨by simp at f1 ⊢;omega,fun q hq=>f2 q (by simp[hq]),f3⟩,f2 k (by simp)⟩
 obtain⟨x,hx⟩:=Xm t g3 g2
 have hd:=(hsub x hx).1.1
 exact⟨(hsub x hx).2,g2,ih k t hm (n-1) (by omega) g3 fun x hx=>(hsub x hx).1⟩
theorem VQ {t:Tr}(h:t.Ord):t.right 5=true↔∀ x∈t.lvs [],LfR 5 x:=⟨Yd t 5,Xt t 5 (by omega) h⟩
/-! the dots of a tree -/
theorem VR {ks:List Kd}{d:Dt}:d∈Tr.dotsL ks↔∃ k t,(k,t)∈ks/\d∈t.dots:=by
 induction ks with
 |nil=>simp[Tr.dotsL]
 |cons y ks ih=>
  obtain⟨k,t⟩:=y
  rw[Tr.dotsL,List.mem_append,ih]
  constructor
  ·rintro (h|⟨k',t',hm,h⟩)
   ·exact⟨k,t,by simp,h⟩
   ·exact⟨k',t',by simp[hm],h⟩
  ·rintro⟨k',t',hm,h⟩
   rcases List.mem_cons.1 hm with e|hm
   ·cases e;exact .inl h
   ·exact .inr ⟨k',t',hm,h⟩
theorem Xu (t:Tr):∀ d,d∈t.dots↔∃ p e,((p,e):Lf)∈t.lvs []/\e.dot=d:=by
 induction t using Tr.ind with
 |h es ks ih=>
 intro d
 rw[Tr.dots,List.mem_append,List.mem_map,VR]
 constructor
 ·rintro (⟨e,he,rfl⟩|⟨k,t,hm,hd⟩)
  ·exact⟨[],e,QO.2 he,rfl⟩
  ·obtain⟨p,e,hp,rfl⟩:=(ih k t hm d).1 hd
   exact⟨k :: p,e,Qq.2 ⟨t,hm,hp⟩,rfl⟩
 ·rintro⟨p,e,hx,rfl⟩
  match p with
  |[]=>exact .inl ⟨e,QO.1 hx,rfl⟩
  |k :: qs=>
   obtain⟨t,hm,hx⟩:=Qq.1 hx
   exact .inr ⟨k,t,hm,(ih k t hm _).2 ⟨qs,e,hx,rfl⟩⟩
theorem X7 {e:En}(h:e.right=true):e.dot.right=true:=by
 unfold En.right at h;simp at h;exact h.1
theorem Zc {t:Tr}(h:t.right 5=true):∀ d∈t.dots,d.right=true:=fun d hd=>by
 obtain⟨p,e,hx,rfl⟩:=(Xu t d).1 hd
 exact X7 (Yd t 5 h _ hx).2.2
theorem X8 {t:Tr}(h:t.right 5=true){d:Dt}:hasC (ctxOf t.dots) d=true↔d∈t.dots:=by
 constructor
 ·intro hc;rw[Y2 (Zc h) (KO hc)]at hc;simpa using hc
 ·intro hm;rw[Y2 (Zc h) (Zc h d hm)];simpa using hm
/-! what is known, right -/
structure CaOk (t:Tr)(c:List Sp):Prop where
 ord:t.Ord
 leaf:∀ x∈t.lvs [],LfR 5 x
 ap:Qk c=true
 has:∀ x∈t.lvs [],hasC c x.2.dot=true
theorem qZs {t:Tr}{c:List Sp}:caR t c=true↔CaOk t c:=by
 unfold caR
 rw[Bool.and_eq_true]
 constructor
 ·rintro⟨h1,h2⟩
  have hc:Qk c=true:=by unfold cLeq at h2;simp only[Bool.and_eq_true]at h2;exact h2.2.1
  refine⟨Yt t 5 h1,Yd t 5 h1,hc,fun x hx=>?_⟩
  have ha:=Zg (Zc h1)
  exact (Kf ha hc).1 h2 _ ((X8 h1).2 ((Xu t _).2 ⟨x.1,x.2,hx,rfl⟩))
 ·rintro⟨h1,h2,h3,h4⟩
  have hr:=(VQ h1).2 h2
  refine⟨hr,(Kf (Zg (Zc hr)) h3).2 fun d hd=>?_⟩
  obtain⟨p,e,hx,rfl⟩:=(Xu t d).1 ((X8 hr).1 hd)
  exact h4 _ hx
theorem CaOk.dep {t:Tr}{c:List Sp}(h:CaOk t c):t.dep<=6:=JA (qZs.2 h)
theorem CaOk.ext {s t:Tr}{c d:List Sp}(h:CaOk s c)(k:CaOk t d)(hl:∀ p e,((p,e):Lf)∈s.lvs []↔((p,e):Lf)∈t.lvs [])(hd:∀ x,hasC c x=hasC d x):s=t/\c=d:=
 ⟨Vm s t h.ord k.ord fun ⟨p,e⟩=>hl p e,VN h.ap k.ap hd⟩
def CaE (w:World)(B:Nat)(x:Tr×List Sp)(cs:List Value):Prop:=∃ ve vk vc,cs=[ve,vk,vc]/\x.1.rd w B ve vk/\SlP w B 3 SpE vc x.2
theorem JB (l:List (Tr×List Sp))(vl:Value)(w:World)(h:SlP w w.heap.size 3 (CaE w w.heap.size) vl l) :
  Calls Tryz.prog 9 #[vl] w fun e w'=>e=.returned (.bool (l.all fun x=>sml9 x.1 x.2 40))/\Below w.heap.size w w':=by
 obtain⟨A,m,rfl,c1,c2,c3⟩:=h
 unfold Big at c2
 go_enter Tryz.func9,Tryz.ntmps9
 go_wp2_with fail
 go_loopw [6] (fun i wr=>∃ k:Nat,k<=l.length/\i=.int .i64 k/\Hid ((l.take k).all (fun x=>sml9 x.1 x.2 40)=true)/\Below w.heap.size w wr) (fun i _=>l.length-(intOf i).toNat)
 case atStart=>exact⟨0,Nat.zero_le _,rfl,by unfold Hid;simp,Below.refl _ _⟩
 case round=>
  obtain⟨k,hk,rfl,hall,hb⟩:=hrel
  by_cases hlt:k<l.length
  ·obtain⟨⟨t,c⟩,hx⟩:∃ x,l[k]?=some x:=⟨_,List.getElem?_eq_getElem hlt⟩
   obtain⟨b,off,rfl,hbB,hc⟩:=c3 (by rintro rfl;simp at hlt)
   obtain⟨cs,⟨ve,vk,vc,rfl,hrd,hsl⟩,_,hu⟩:=hc k _ hx
   obtain⟨A3,n3,A4,n4,rfl,rfl⟩:=Ql hrd
   obtain⟨A5,n5,hv5,_⟩:=id hsl
   simp only at hv5 hrd hsl
   subst hv5
   have e0:wr.cell? ⟨b,off+k*3,none⟩=some (.slice A3 t.es.length n3):=(hb.cell hbB).trans (hu 0 _ rfl)
   have e1:wr.cell? ⟨b,off+k*3+1,none⟩=some (.slice A4 t.ks.length n4):=(hb.cell hbB).trans (hu 1 _ rfl)
   have e2:wr.cell? ⟨b,off+k*3+2,none⟩=some (.slice A5 c.length n5):=(hb.cell hbB).trans (hu 2 _ rfl)
   have HRD:=hid (Qj hb hb.size _ _ _ hrd)
   have HSL:Hid (SlP wr wr.heap.size 3 SpE (.slice A5 c.length n5) c):=hsl.imp hb hb.size fun _ _ _ h=>h
   have hmem:=List.mem_of_getElem? hx
   have htk:l.take (k+1)=l.take k++[(t,c)]:=by rw[List.take_add_one,hx];rfl
   have HTK:=hid htk
   have HME:=hid hmem
   clear hu hc c3 hx hrd hsl hmem htk
   go_wp2_with fail
   refine (X4 t c 40 _ _ _ wr HRD.out HSL.out (by omega) (by omega)).mono ?_
   cases hs:sml9 t c 40
   ·rintro e w1 ⟨rfl,hb1⟩
    have HS:=hid hs
    clear hs
    go_wp2_with fail
    go_ret
    exact⟨Qe (List.all_eq_false.2 ⟨_,HME.out,by simp[HS.out]⟩).symm,hb.trans (hb1.mono hb.size)⟩
   ·rintro e w1 ⟨rfl,hb1⟩
    have HS:=hid hs
    clear hs
    go_wp2_with fail
    go_roundw
    case rel=>exact⟨k+1,by omega,by go_num,by unfold Hid;rw[HTK.out,List.all_append,hall.out];simp[HS.out],hb.trans (hb1.mono hb.size)⟩
    case measure=>simp[intOf];omega
  ·obtain rfl:k=l.length:=by omega
   rw[List.take_of_length_le (Nat.le_refl _)]at hall
   go_wp2_with fail
   go_ret
   exact⟨Qe hall.out.symm,hb⟩
theorem YJ (l:List (Tr×List Sp))(vl:Value)(w:World)(h:SlP w w.heap.size 3 (CaE w w.heap.size) vl l)(hN:∀ x∈l,x.1.sz<=4000/\x.2.length<=20000) :
  Calls Tryz.prog 11 #[vl] w fun e w'=>e=.returned (.bool (l.all fun x=>caR x.1 x.2))/\Below w.heap.size w w':=by
 obtain⟨A,m,rfl,c1,c2,c3⟩:=h
 unfold Big at c2
 go_enter Tryz.func11,Tryz.ntmps11
 go_wp2_with fail
 go_loopw [6] (fun i wr=>∃ k:Nat,k<=l.length/\i=.int .i64 k/\Hid ((l.take k).all (fun x=>caR x.1 x.2)=true)/\Below w.heap.size w wr) (fun i _=>l.length-(intOf i).toNat)
 case atStart=>exact⟨0,Nat.zero_le _,rfl,by unfold Hid;simp,Below.refl _ _⟩
 case round=>
  obtain⟨k,hk,rfl,hall,hb⟩:=hrel
  by_cases hlt:k<l.length
  ·obtain⟨⟨t,c⟩,hx⟩:∃ x,l[k]?=some x:=⟨_,List.getElem?_eq_getElem hlt⟩
   obtain⟨b,off,rfl,hbB,hc⟩:=c3 (by rintro rfl;simp at hlt)
   obtain⟨cs,⟨ve,vk,vc,rfl,hrd,hsl⟩,_,hu⟩:=hc k _ hx
   obtain⟨A3,n3,A4,n4,rfl,rfl⟩:=Ql hrd
   obtain⟨A5,n5,hv5,_⟩:=id hsl
   simp only at hv5 hrd hsl
   subst hv5
   have e0:wr.cell? ⟨b,off+k*3,none⟩=some (.slice A3 t.es.length n3):=(hb.cell hbB).trans (hu 0 _ rfl)
   have e1:wr.cell? ⟨b,off+k*3+1,none⟩=some (.slice A4 t.ks.length n4):=(hb.cell hbB).trans (hu 1 _ rfl)
   have e2:wr.cell? ⟨b,off+k*3+2,none⟩=some (.slice A5 c.length n5):=(hb.cell hbB).trans (hu 2 _ rfl)
   have HRD:=hid (Qj hb hb.size _ _ _ hrd)
   have HSL:Hid (SlP wr wr.heap.size 3 SpE (.slice A5 c.length n5) c):=hsl.imp hb hb.size fun _ _ _ h=>h
   have hmem:=List.mem_of_getElem? hx
   have htk:l.take (k+1)=l.take k++[(t,c)]:=by rw[List.take_add_one,hx];rfl
   have HTK:=hid htk
   have HME:=hid hmem
   have HN:=hid (hN _ hmem)
   clear hu hc c3 hx hrd hsl hmem htk
   go_wp2_with fail
   have hr9:r9R t c=caR t c:=(qZf t c).symm
   refine (X3 t c _ _ _ wr HRD.out HSL.out HN.out.1 HN.out.2).mono ?_
   rw[hr9]
   clear hr9
   cases hs:caR t c
   ·rintro e w1 ⟨rfl,hb1⟩
    have HS:=hid hs
    clear hs
    go_wp2_with fail
    go_ret
    exact⟨Qe (List.all_eq_false.2 ⟨_,HME.out,by simp[HS.out]⟩).symm,hb.trans (hb1.mono hb.size)⟩
   ·rintro e w1 ⟨rfl,hb1⟩
    have HS:=hid hs
    clear hs
    go_wp2_with fail
    go_roundw
    case rel=>exact⟨k+1,by omega,by go_num,by unfold Hid;rw[HTK.out,List.all_append,hall.out];simp[HS.out],hb.trans (hb1.mono hb.size)⟩
    case measure=>simp[intOf];omega
  ·obtain rfl:k=l.length:=by omega
   rw[List.take_of_length_le (Nat.le_refl _)]at hall
   go_wp2_with fail
   go_ret
   exact⟨Qe hall.out.symm,hb⟩
theorem qZt {t:Tr}{c:List Sp}(h:sml9 t c 40=true):t.sz<=40/\c.length<=40:=by
 unfold sml9 at h
 rw[Bool.and_eq_true]at h
 have h1:=qZ3 h.1
 have h2:=of_decide_eq_true h.2
 omega
theorem kn_at {W:World}{B:Nat}{t:Tr}{c:List Sp}{ve vk vc:Value}(h:t.rd W B ve vk)(hc:SlP W B 3 SpE vc c):CaE W B (t,c) [ve,vk,vc]:=⟨_,_,_,rfl,h,hc⟩
theorem CaOk.nil:CaOk (.mk [] []) []:=⟨Vo,fun x h=>by simp[Tr.lvs,Tr.lvsL]at h,X6,fun x h=>by simp[Tr.lvs,Tr.lvsL]at h⟩
abbrev Kn:=Tr×List Sp
end Go.Proofs.YtbcoelggdikipaaGreat
