/- What the laws need. No condition but those that each lemma states. -/
import Derived.Test.YtbcoelggdikipaaGreatUp5
import Derived.Test.YtbcoelggdikipaaGreatUp6
import Derived.Test.YtbcoelggdikipaaGreatUp3
import Derived.Test.YtbcoelggdikipaaGreatUp2
import Derived.Test.YtbcoelggdikipaaGreatUp4
set_option maxRecDepth 100000
set_option maxHeartbeats 8000000
set_option linter.unusedSimpArgs false
namespace Go.Proofs.YtbcoelggdikipaaGreat
open Go.RowKit Go.Sort
def cmpR (x y:Int×Int):Int:=cmpI x.1 y.1
theorem qZo (x y:Int×Int):ltOf cmpR x y=decide (x.1<y.1):=Jr x.1 y.1
theorem swoR:SWO (ltOf cmpR) where
 irrefl x:=by rw[qZo];simp
 trans x y z h1 h2:=by rw[qZo]at *;simp at *;omega
 ntrans x y z h1 h2:=by rw[qZo]at *;simp at *;omega
theorem VY (x y:Int×Int)(W:World):Calls Tryz.prog 184 #[.agg #[.int .i64 x.1,.int .i64 x.2],.agg #[.int .i64 y.1,.int .i64 y.2]] W fun e w'=>e=.returned (.int .i64 (cmpR x y))/\∃ q os',w'=grow (W.drewN q) os':=by
 go_enter Tryz.func184,Tryz.ntmps184
 go_wp2_with (go_at_call 185;refine (Xh _ _ _).mono ?_;rintro e w' ⟨rfl,rfl⟩)
 go_ret
 exact⟨rfl,0,_,by rw[alloc_eq_grow,alloc_eq_grow,grow_grow];rfl⟩
theorem qVd {l:List (Int×Int)}(h:∀ r∈l,runOk r):Zi l:=fun r hr=>by
 have:=h r hr;unfold runOk at this;omega
theorem Ze:∀ (l:List (Int×Int)) (p:Option Int),runsR p l=true->∀ r∈l,runOk r
 |x :: l,p,h,r,hr=>by
  rw[Qo]at h
  rcases List.mem_cons.1 hr with rfl|hr
  ·exact h.1
  ·exact Ze l _ h.2.2 r hr
theorem KO {a b ts:List (Int×Int)}(ha:runsR none a=true)(hb:runsR none b=true)(hp:ts.Perm (a++b))(hs:ts.Pairwise fun x y=>x.1<=y.1):joinL ts=byL a b 0:=by
 have oa:=Ze a none ha
 have ob:=Ze b none hb
 have ot:∀ r∈ts,runOk r:=fun r hr=>by
  rcases List.mem_append.1 (hp.subset hr) with h|h
  ·exact oa r h
  ·exact ob r h
 obtain⟨a1,a2⟩:=JU ot hs
 obtain⟨b1,b2⟩:=Yg 0 oa ob
 refine YA _ _ none none a1 b1 fun n=>?_
 rw[a2,b2]
 have:hasL ts n=hasL (a++b) n:=by
  unfold hasL
  rw[Bool.eq_iff_iff,List.any_eq_true,List.any_eq_true]
  exact⟨fun ⟨r,h1,h2⟩=>⟨r,hp.subset h1,h2⟩,fun ⟨r,h1,h2⟩=>⟨r,hp.symm.subset h1,h2⟩⟩
 rw[this,Z0]
 simp[inn]
theorem JX (a b:List (Int×Int))(va vb:Value)(w:World)(ha:SlP w w.heap.size 2 RuE va a)(hb:SlP w w.heap.size 2 RuE vb b) :
  Calls Tryz.prog 135 #[va,vb] w fun e w'=>e=.returned (.bool (runsR none a&&runsR none b))/\Below w.heap.size w w':=by
 have HB:=hid hb
 go_enter Tryz.func135,Tryz.ntmps135
 go_wp2_with fail
 refine (Yf a va w ha).mono ?_
 rintro e w1 ⟨rfl,hb1⟩
 have hs1:=hb1.size
 cases hr:runsR none a
 ·have HR:=hid hr
  clear hr
  go_wp2_with fail
  go_ret
  exact⟨Qf (by rw[HR.out];rfl),hb1⟩
 ·have HR:=hid hr
  clear hr
  go_wp2_with fail
  refine (Yf b vb w1 (HB.out.imp hb1 hs1 fun _ _ _ h=>h)).mono ?_
  rintro e w2 ⟨rfl,hb2⟩
  go_wp2_with fail
  go_ret
  exact⟨Qf (by rw[HR.out];rfl),hb1.trans (hb2.mono hs1)⟩
theorem qJr (a b:List (Int×Int))(va vb:Value)(w:World)(ha:SlP w w.heap.size 2 RuE va a)(hb:SlP w w.heap.size 2 RuE vb b)(hra:runsR none a=true)(hrb:runsR none b=true)(hN:a.length<=300000)(hN':b.length<=300000) :
  Calls Tryz.prog 157 #[va,vb] w (RetO w 167 2 (fun _=>RuE) (byL a b 0)):=by
 have HA:=hid ha
 have HB:=hid hb
 have HRA:=hid hra
 have HRB:=hid hrb
 have hor:Zi (a++b):=qVd fun r hr=>by
  rcases List.mem_append.1 hr with h|h
  ·exact Ze a none hra r h
  ·exact Ze b none hrb r h
 have HOR:=hid hor
 obtain⟨A1,c1,rfl,_⟩:=ha
 obtain⟨A2,c2,rfl,_⟩:=hb
 clear hra hrb hor
 go_enter Tryz.func157,Tryz.ntmps157
 go_wp2_with fail
 refine (JX a b _ _ w HA.out HB.out).mono ?_
 rw[HRA.out,HRB.out]
 rintro e w1 ⟨rfl,hb1⟩
 have hs1:=hb1.size
 go_wp2_with fail
 refine (qJn a b (.slice A1 a.length c1) (.slice A2 b.length c2) w1.heap.size _ (by simp) (by simp) (by simp) (HA.out.imp (hb1.alloc hs1 _) (by simp;omega) fun _ _ _ h=>h) (HB.out.imp (hb1.alloc hs1 _) (by simp;omega) fun _ _ _ h=>h) hN hN').mono ?_
 rintro e w2 ⟨v2,rfl,ho2,hb2⟩
 have hs2:=hb2.size
 simp only[World.size_alloc]at hs2
 have hB2:Below w.heap.size w w2:=(hb1.alloc hs1 _).trans (hb2.mono (by simp;omega))
 have ho2':OwnP w2 (w1.heap.size+1) 167 2 RuE v2 ((a++b).map id):=by rw[List.map_id];exact ho2.mono (by simp)
 go_wp2_with fail
 refine (JQ id cmpR swoR 184 (enters_of Tryz.func184 (by kernel_rfl) rfl) (fun x y W=>VY x y W) (a++b) v2 w2 _ ho2' (by simp;omega) hs2).mono ?_
 rintro e w3 ⟨rfl,ts,hp,hs,ho3,hb3⟩
 rw[List.map_id]at ho3
 have hs3:=hb3.size
 have hJ:=KO HRA.out HRB.out hp (hs.imp fun h=>(JW _ _).1 h)
 have HJ:=hid hJ
 have hlen:ts.length=a.length+b.length:=by rw[hp.length_eq,List.length_append]
 have hsl:=ho3.sl (by rw[hlen];unfold Big;omega)
 have HSL:=hid hsl
 have HTR:Hid (Zi ts):=fun r hr=>HOR.out r (hp.subset hr)
 have hl3:ts.length<=900000:=by omega
 clear hp hs ho3 hJ hsl ho2 ho2' hlen
 go_wp2_with fail
 refine (JV ts _ w3 HSL.out hl3 HTR.out).mono ?_
 rintro e w4 ⟨v4,rfl,ho4,hb4⟩
 rw[HJ.out]at ho4
 go_wp2_with fail
 go_ret
 exact⟨_,rfl,ho4.mono (by omega),(hB2.trans (hb3.mono (by omega))).trans (hb4.mono (by omega))⟩
end Go.Proofs.YtbcoelggdikipaaGreat
namespace Go.Proofs.YtbcoelggdikipaaGreat
open Go.RowKit
def Vs (g:Nat)(how:Int):Prop:=
 (∀ args W,(callFunc g args).run Tryz.prog W=.ok (.enter g args) W) /\
 ∀ (a b:List (Int×Int)) (va vb:Value) (W:World),SlP W W.heap.size 2 RuE va a->SlP W W.heap.size 2 RuE vb b->runsR none a=true->runsR none b=true->a.length<=100000->b.length<=100000 ->
  Calls Tryz.prog g #[va,vb] W (RetO W 167 2 (fun _=>RuE) (byL a b how))
def ByA (a b:List Sp)(how:Int)(vs us:Nat->Value)(w1 w2:World)(k:Nat)(wr:World):Prop:=
 ∃ ps:Nat->Value,wr.heap[w1.heap.size]?=some (.cells #[ps 0,ps 1,ps 2,ps 3] 162 (0,0))/\wr.heap[w2.heap.size]?=some (.cells #[us 0,us 1,us 2,us 3] 162 (0,0)) /\
  (∀ j,j<k->OwnP wr (w2.heap.size+1) 167 2 RuE (ps j) (byL (partL a (j:Int)) (partL b (j:Int)) how))/\(∀ j,k<=j->ps j=vs j)/\(∀ blk,w1.heap.size<blk->blk<w2.heap.size->wr.heap[blk]?=w2.heap[blk]?)/\Below w1.heap.size w1 wr
theorem qZp (a b:List Sp)(how:Int)(g:Nat)(hf:Vs g how)(va vb:Value)(w:World)(ha:SlP w w.heap.size 3 SpE va a)(hb:SlP w w.heap.size 3 SpE vb b)(hra:Qm a=true)(hrb:Qm b=true)(hN:a.length<=20000)(hN':b.length<=20000) :
  Calls Tryz.prog 93 #[va,vb,.func (.func g) #[] #[]] w (RetO w 45 3 (fun _=>SpE) (ctxBy a b how)):=by
 obtain⟨eg,hf⟩:=hf
 have HA:=hid ha
 have HB:=hid hb
 obtain⟨A1,c1,rfl,_⟩:=ha
 obtain⟨A2,c2,rfl,_⟩:=hb
 go_enter Tryz.func93,Tryz.ntmps93
 go_wp2_with fail
 refine (Xw a _ w HA.out (by omega)).mono ?_
 rintro e w1 ⟨vs,rfl,hsl,hb1⟩
 have hs1:=hb1.size
 rw[hra]
 simp only[hra,if_true]at hsl
 obtain⟨B0,m0,g0,_⟩:=hsl 0 (by omega)
 obtain⟨B1,m1,g1,_⟩:=hsl 1 (by omega)
 obtain⟨B2,m2,g2,_⟩:=hsl 2 (by omega)
 obtain⟨B3,m3,g3,_⟩:=hsl 3 (by omega)
 have HVS:=hid (fun i (hi:i<4)=>(hsl i hi).slp (fun b hb=>hb.2) (Below.refl _ w1))
 have G0:=hid g0
 have G1:=hid g1
 have G2:=hid g2
 have G3:=hid g3
 simp only[g0,g1,g2,g3]
 clear hsl g0 g1 g2 g3
 go_wp2_with fail
 refine (Xw b _ _ (HB.out.imp (hb1.alloc hs1 _) (by simp;omega) fun _ _ _ h=>h) (by omega)).mono ?_
 rintro e w2 ⟨us,rfl,hsl,hb2⟩
 have hs2:=hb2.size
 simp only[World.size_alloc]at hs2
 rw[hrb]
 simp only[hrb,if_true]at hsl
 obtain⟨D0,n0,k0,_⟩:=hsl 0 (by omega)
 obtain⟨D1,n1,k1,_⟩:=hsl 1 (by omega)
 obtain⟨D2,n2,k2,_⟩:=hsl 2 (by omega)
 obtain⟨D3,n3,k3,_⟩:=hsl 3 (by omega)
 have HUS:=hid hsl
 have K0:=hid k0
 have K1:=hid k1
 have K2:=hid k2
 have K3:=hid k3
 simp only[k0,k1,k2,k3]
 clear hsl k0 k1 k2 k3
 have hp2:=hid ((hb2.block w1.heap.size (by simp)).trans (Qd rfl))
 have hB2:Below w1.heap.size w1 w2:=((Below.refl _ w1).alloc (Nat.le_refl _) _).trans (hb2.mono (by simp))
 go_wp2_with fail
 go_loopw [28] (fun i wr=>∃ k:Nat,k<=4/\i=.int .i64 k/\ByA a b how vs us w1 w2 k wr) (fun i _=>4-(intOf i).toNat)
 case atStart=>
  refine⟨0,by omega,rfl,vs,?_,?_,fun j hj=>absurd hj (Nat.not_lt_zero _),fun _ _=>rfl,fun blk _ hb=>Qg hb,hB2.alloc (by omega) _⟩
  ·rw[Qg (by omega),G0.out,G1.out,G2.out,G3.out];exact hp2.out
  ·rw[Qd rfl,K0.out,K1.out,K2.out,K3.out];rfl
 case round=>
  obtain⟨k,hk,rfl,ps,hpa,hqa,hpo,hpv,hkp,hbr⟩:=hrel
  have hsz:=hbr.size
  have hp3:w1.heap.size<wr.heap.size:=(Array.getElem?_eq_some_iff.1 hpa).1
  have hq3:w2.heap.size<wr.heap.size:=(Array.getElem?_eq_some_iff.1 hqa).1
  by_cases hk4:k<4
  ·have hki:(k:Int)<4:=by omega
   have hla:=QM a k
   have hlb:=QM b k
   have hq2:w2.heap.size+1<=wr.heap.size:=by omega
   have HSA:Hid (SlP wr.drew wr.drew.heap.size 2 RuE (vs k) (partL a k)):=(HVS.out k hk4).imp hbr.drew hsz fun _ _ _ h=>h
   have HSB:Hid (SlP wr.drew wr.drew.heap.size 2 RuE (us k) (partL b k)):=ZM.2 ((HUS.out k hk4).up (w':=wr.drew) (fun blk hb=>hkp blk (by have:=hb.1;simp only[World.size_alloc]at this;omega) hb.2) (fun blk hb=>by have:=hb.2;show blk<wr.heap.size;omega) (fun _ _ _ h=>h))
   have hcall:=hf (partL a k) (partL b k) (vs k) (us k) wr.drew HSA.out HSB.out (Qw hra hk4) (Qw hrb hk4) (by omega) (by omega)
   have hpc:wr.cell? ⟨w1.heap.size,k,none⟩=some (vs k):=by rw[Qa hpa,ZG ps hk4,hpv k (Nat.le_refl _)]
   have hqc:wr.cell? ⟨w2.heap.size,k,none⟩=some (us k):=(Qa hqa).trans (ZG us hk4)
   have HPA:=hid hpa
   have HQA:=hid hqa
   have HPO:=hid hpo
   have HPV:=hid hpv
   have HKP:=hid hkp
   have HCALL:=hid hcall
   clear hpa hqa hpo hpv hkp hf hcall
   go_wp2_with fail
   refine ZS (S:=fun w'=>w'.cell? ⟨w1.heap.size,k,none⟩=some (vs k)/\w'.cell? ⟨w2.heap.size,k,none⟩=some (us k)) 10 (by kernel_rfl) (by kernel_rfl) ?_
   simp only[List.take_succ_cons,List.take_zero,List.drop_succ_cons,List.drop_zero]
   have hHeld:(fun w':World=>w'.cell? ⟨w1.heap.size,k,none⟩=some (vs k)/\w'.cell? ⟨w2.heap.size,k,none⟩=some (us k)) wr.drew:=by go_keep
   refine wpAnyH_take (i:=0) (oi:=_) (v:=?v0) rfl (by kernel_rfl) (by kernel_rfl) (by kernel_rfl) (fun _ _ _ h=>h) (Or.inl ⟨by rfl,?h0⟩) (by assumption) ?_
   case h0=>(intro w hSw;(try dsimp only at hSw);go_simp;(try with_reducible rfl))
   simp only[Act.put,List.setIfInBounds_toArray]
   refine wpAnyH_take (i:=1) (oi:=_) (v:=?v1) rfl (by kernel_rfl) (by kernel_rfl) (by kernel_rfl) (fun _ _ _ h=>h) (Or.inl ⟨by rfl,?h1⟩) (by assumption) ?_
   case h1=>(intro w hSw;(try dsimp only at hSw);go_simp;(try with_reducible rfl))
   simp only[Act.put,List.setIfInBounds_toArray]
   refine wpAnyH_take (i:=2) (oi:=_) (v:=?v2) rfl (by kernel_rfl) (by kernel_rfl) (by kernel_rfl) (fun _ _ _ h=>h) (Or.inl ⟨by rfl,?h2⟩) (by assumption) ?_
   case h2=>(intro w hSw;(try dsimp only at hSw);go_simp;(try with_reducible rfl))
   simp only[Act.put,List.setIfInBounds_toArray]
   refine wpAnyH_take (i:=3) (oi:=_) (v:=?v3) rfl (by kernel_rfl) (by kernel_rfl) (by kernel_rfl) (fun _ _ _ h=>h) (Or.inl ⟨by rfl,?h3⟩) (by assumption) ?_
   case h3=>(intro w hSw;(try dsimp only at hSw);go_simp;(try with_reducible rfl))
   simp only[Act.put,List.setIfInBounds_toArray]
   refine wpAnyH_take (i:=4) (oi:=_) (v:=?v4) rfl (by kernel_rfl) (by kernel_rfl) (by kernel_rfl) (fun _ _ _ h=>h) (Or.inl ⟨by rfl,?h4⟩) (by assumption) ?_
   case h4=>(intro w hSw;(try dsimp only at hSw);go_simp;(try with_reducible rfl))
   simp only[Act.put,List.setIfInBounds_toArray]
   refine wpAnyH_take (i:=5) (oi:=_) (v:=?v5) rfl (by kernel_rfl) (by kernel_rfl) (by kernel_rfl) (fun _ _ _ h=>h) (Or.inl ⟨by rfl,?h5⟩) (by assumption) ?_
   case h5=>(intro w hSw;(try dsimp only at hSw);go_simp;(try with_reducible rfl))
   simp only[Act.put,List.setIfInBounds_toArray]
   refine wpAnyH_take (i:=6) (oi:=_) (v:=?v6) rfl (by kernel_rfl) (by kernel_rfl) (by kernel_rfl) (fun _ _ _ h=>h) (Or.inl ⟨by rfl,?h6⟩) (by assumption) ?_
   case h6=>(intro w hSw;(try dsimp only at hSw);go_simp;(try with_reducible rfl))
   simp only[Act.put,List.setIfInBounds_toArray]
   refine wpAnyH_take (i:=7) (oi:=_) (v:=?v7) rfl (by kernel_rfl) (by kernel_rfl) (by kernel_rfl) (fun _ _ _ h=>h) (Or.inl ⟨by rfl,?h7⟩) (by assumption) ?_
   case h7=>(intro w hSw;(try dsimp only at hSw);go_simp;(try with_reducible rfl))
   simp only[Act.put,List.setIfInBounds_toArray]
   refine wpAnyH_ready (rs:=[8]) (by kernel_rfl) (by simp) ?_
   refine AllReadyH.cons (o:=_) rfl (fun K hK=>?_) AllReadyH.nil
   go_simp
   refine HCALL.out.mono ?_
   rintro e w3 ⟨v3,rfl,ho3,hb3⟩
   obtain⟨A3,c3,rfl⟩:=ho3.shape
   have hb3':Below wr.heap.size wr w3:=(Below.refl _ wr).drew.trans hb3
   have hp4:=(hb3'.block w1.heap.size hp3).trans HPA.out
   have hq4:=(hb3'.block w2.heap.size hq3).trans HQA.out
   have hpc3:w3.cell? ⟨w1.heap.size,k,none⟩=some (vs k):=by rw[Qa hp4,ZG ps hk4,HPV.out k (Nat.le_refl _)]
   have hqc3:w3.cell? ⟨w2.heap.size,k,none⟩=some (us k):=(Qa hq4).trans (ZG us hk4)
   have hf3:w3.frozen? ⟨w1.heap.size,k,none⟩=false:=Qb hp4
   have HP4:=hid hp4
   have HQ4:=hid hq4
   have HO3:=hid ho3
   have HB3:=hid hb3'
   clear hp4 hq4 ho3 hb3 hb3'
   dsimp only
   refine hK.out _ _ ⟨hpc3,hqc3⟩ (fun hHeld8=>?_)
   clear hK K
   simp only[List.setIfInBounds_toArray]
   refine wpAnyH_take (i:=9) (oi:=_) (v:=?v9) rfl (by kernel_rfl) (by kernel_rfl) (by kernel_rfl) (fun _ _ _ h=>h) (Or.inl ⟨by rfl,?h9⟩) (by assumption) ?_
   case h9=>(intro w hSw;(try dsimp only at hSw);go_simp;(try with_reducible rfl))
   simp only[Act.put,List.setIfInBounds_toArray]
   refine wpAnyH_done (by kernel_rfl) ?_ _
   change wpList _ _ _ _ _ _
   go_wp2_with fail
   go_roundw
   case rel=>
    have hs3:=HB3.out.size
    refine⟨k+1,by omega,by go_num,fun j=>if j=k then .slice A3 (byL (partL a k) (partL b k) how).length c3 else ps j,?_,?_,fun j hj=>?_,fun j hj=>?_,fun blk h1 h2=>?_,(hbr.trans (HB3.out.mono hsz)).setCell (Nat.le_refl _) _⟩
    ·rw[Qe HP4.out,Vp ps hk4]
    ·exact (Below.heap_setCell _ _ _ _ (by show w2.heap.size≠w1.heap.size;omega)).trans HQ4.out
    ·by_cases e:j=k
     ·subst e
      simp only[if_true]
      exact (HO3.out.mono (by show _<=wr.heap.size;omega)).setOther (by show w1.heap.size<_;omega) _
     ·simp only[if_neg e]
      exact ((HPO.out j (by omega)).grow HB3.out).setOther (by show w1.heap.size<_;omega) _
    ·show (if j=k then _ else ps j)=vs j
     rw[if_neg (show ¬j=k by omega)];exact HPV.out j (by omega)
    ·exact (Below.heap_setCell _ _ _ _ (by show blk≠w1.heap.size;omega)).trans ((HB3.out.block blk (by omega)).trans (HKP.out blk h1 h2))
   case measure=>simp[intOf];omega
  ·obtain rfl:k=4:=by omega
   have d0:wr.cell? ⟨w1.heap.size,0,none⟩=some (ps 0):=Qa (i:=0) hpa
   have d1:wr.cell? ⟨w1.heap.size,1,none⟩=some (ps 1):=Qa (i:=1) hpa
   have d2:wr.cell? ⟨w1.heap.size,2,none⟩=some (ps 2):=Qa (i:=2) hpa
   have d3:wr.cell? ⟨w1.heap.size,3,none⟩=some (ps 3):=Qa (i:=3) hpa
   have HOL:∀ j:Nat,(byL (partL a (j:Int)) (partL b (j:Int)) how).length<=80001:=fun j=>by
    have:=JE (partL a (j:Int)) (partL b (j:Int)) how;have:=QM a (j:Int);have:=QM b (j:Int);omega
   have HSP:Hid (∀ j,j<4->SlP wr wr.heap.size 2 RuE (ps j) (byL (partL a (j:Int)) (partL b (j:Int)) how)):=fun j hj=>(hpo j hj).sl (by have:=HOL j;unfold Big;omega)
   have HOLH:=hid HOL
   clear hpa hqa hpo hpv hkp HOL
   go_wp2_with fail
   refine (V0 (fun j=>byL (partL a (j:Int)) (partL b (j:Int)) how) ps wr HSP.out (fun j _=>by have:=HOLH.out j;show (byL _ _ _).length<=_;omega)).mono ?_
   rintro e w4 ⟨v4,rfl,ho4,hb4⟩
   go_wp2_with fail
   go_ret
   exact⟨_,rfl,ho4.mono (by omega),(hb1.trans (hbr.mono hs1)).trans (hb4.mono (by omega))⟩
theorem qJs:Vs 157 0:=
 ⟨enters_of Tryz.func157 (by kernel_rfl) rfl,fun a b va vb W ha hb hra hrb hN hN'=>qJr a b va vb W ha hb hra hrb (by omega) (by omega)⟩
theorem YS (a b:List Sp)(va vb:Value)(w:World)(ha:SlP w w.heap.size 3 SpE va a)(hb:SlP w w.heap.size 3 SpE vb b)(hra:Qm a=true)(hrb:Qm b=true)(hN:a.length<=20000)(hN':b.length<=20000) :
  Calls Tryz.prog 112 #[va,vb] w (RetO w 45 3 (fun _=>SpE) (ctxBy a b 0)):=by
 go_enter Tryz.func112,Tryz.ntmps112
 go_wp2_with fail
 refine (qZp a b 0 _ qJs va vb w ha hb hra hrb hN hN').mono ?_
 rintro e w1 ⟨v,rfl,h⟩
 go_wp2_with fail
 go_ret
 exact⟨v,rfl,h⟩
def OfA (l:List Dt)(w:World)(k:Nat)(wr:World):Prop:=
 ∃ vs:Nat->Value,Rows4 wr (w.heap.size+1) w.heap.size 183 2 1 InE vs (fun i=>numsL (l.take k) i)/\Below w.heap.size w wr
def OfB (l:List Dt)(w1:World)(k:Nat)(wr:World):Prop:=
 ∃ ps:Nat->Value,wr.heap[w1.heap.size]?=some (.cells #[ps 0,ps 1,ps 2,ps 3] 162 (0,0)) /\
  (∀ j,j<4->OwnP wr (w1.heap.size+1) 167 2 RuE (ps j) (if j<k then ofL (numsL l (j:Int)) else []))/\Below w1.heap.size w1 wr
theorem X5 (l:List Dt)(vl:Value)(w:World)(h:SlP w w.heap.size 2 DtE vl l)(hR:∀ d∈l,d.right=true)(hN:l.length<=100000) :
  Calls Tryz.prog 113 #[vl] w fun e w'=>∃ v,e=.returned (.tuple #[v,.int .i64 0])/\OwnP w' w.heap.size 45 3 SpE v (ctxOf l)/\Below w.heap.size w w':=by
 obtain⟨A,n,rfl,b1,b2,b3⟩:=h
 unfold Big at b2
 go_enter Tryz.func113,Tryz.ntmps113
 go_wp2_with fail
 go_loopw [12] (fun i wr=>∃ k:Nat,k<=l.length/\i=.int .i64 k/\OfA l w k wr) (fun i _=>l.length-(intOf i).toNat)
 case atStart=>exact⟨0,Nat.zero_le _,rfl,fun _=>.slice none 0 0,Rows4.start (Qd rfl) (by omega),(Below.refl _ w).alloc (Nat.le_refl _) _⟩
 case round=>
  obtain⟨k,hk,rfl,vs,hr4,hb⟩:=hrel
  have hsz:=hb.size
  have hsz2:w.heap.size<wr.heap.size:=(Array.getElem?_eq_some_iff.1 hr4.arr).1
  have hsz4:w.heap.size≠wr.heap.size:=by omega
  by_cases hlt:k<l.length
  ·obtain⟨⟨dc,num⟩,hx⟩:∃ x,l[k]?=some x:=⟨_,List.getElem?_eq_getElem hlt⟩
   obtain⟨b,off,rfl,hbB,hc⟩:=b3 (by rintro rfl;simp at hlt)
   obtain⟨cs,⟨rfl,hok⟩,_,hu⟩:=hc k _ hx
   have e0:wr.cell? ⟨b,off+k*2,none⟩=some (.int .i64 dc):=(hb.cell hbB).trans (hu 0 _ rfl)
   have e1:wr.cell? ⟨b,off+k*2+1,none⟩=some (.int .i64 num):=(hb.cell hbB).trans (hu 1 _ rfl)
   have hri:=hR _ (List.mem_of_getElem? hx)
   have hbd:(0<=dc/\dc<4)/\1<=num/\num<=1099511627776:=by simpa[Dt.right,and_assoc] using hri
   have HRI:=hid hri
   have HR4:=hid hr4
   obtain⟨d,rfl⟩:∃ d:Nat,dc=(d:Int):=⟨dc.toNat,by omega⟩
   have hd4:d<4:=by omega
   have hdi:(d:Int)<4:=by omega
   have HPD:Hid ((fun i:Nat=>numsL (l.take (k+1)) i)=fun i=>if i=d then numsL (l.take k) d++[num] else numsL (l.take k) i):=by
    unfold Hid;funext i
    rw[KD hx]
    by_cases e:i=d
    ·subst e;rw[if_pos rfl,if_pos rfl]
    ·rw[if_neg e,if_neg (by show ¬(d:Int)=(i:Int);omega),List.append_nil]
   have HL:Hid ((numsL (l.take k) d).length + [num].length<=Few):=by have:=ZP (l.take k) d;rw[List.length_take]at this;unfold Hid Few;simp;omega
   have HRE:Hid (InE num [.int .i64 num]):=⟨rfl,hok.n⟩
   have hbp:wr.cell? ⟨w.heap.size,d,none⟩=some (vs d):=HR4.out.at hd4
   have HLT:=hid ((HR4.out.own d hd4).lt)
   clear hu hx hc b3 hok hr4 hri hR
   go_upto_region 7 with (go_at_call 64;refine (QC ⟨d,num⟩ _).mono ?_;rw[HRI.out];rintro e wd ⟨rfl,hbd'⟩;have hsd:=hbd'.size;simp only[World.size_alloc]at hsd)
   have HB1:Hid (Below wr.heap.size wr wd):=((Below.refl _ wr).alloc (Nat.le_refl _) _).trans (hbd'.mono (by simp))
   have hx0:wd.cell? ⟨wr.heap.size,0,none⟩=some (.int .i64 (d:Int)):=by rw[hbd'.cell (p:=⟨wr.heap.size,0,none⟩) (by simp)];simp
   have hx1:wd.cell? ⟨wr.heap.size,1,none⟩=some (.int .i64 num):=by rw[hbd'.cell (p:=⟨wr.heap.size,1,none⟩) (by simp)];simp
   have hxb:wd.heap[wr.heap.size]?=some (.cells #[.int .i64 (d:Int),.int .i64 num] 78 (0,0)):=(hbd'.block wr.heap.size (by simp)).trans (Qd rfl)
   have HXB:=hid hxb
   have hbp1:wd.cell? ⟨w.heap.size,d,none⟩=some (vs d):=(HB1.out.cell (p:=⟨w.heap.size,d,none⟩) hsz2).trans hbp
   have HR5:=hid (HR4.out.grow HB1.out)
   have hwd1:w.heap.size<wd.heap.size:=by omega
   have hwd2:w.heap.size≠wd.heap.size:=by omega
   have hwd3:wr.heap.size<wd.heap.size:=by omega
   have hwd4:wr.heap.size≠wd.heap.size:=by omega
   have HBW:=hid (hb.trans (HB1.out.mono hsz))
   clear hbp hxb hbd' e0 e1
   go_wp2_with fail
   refine ZS (S:=fun w'=>w'.cell? ⟨wr.heap.size,0,none⟩=some (.int .i64 (d:Int))/\w'.cell? ⟨wr.heap.size,1,none⟩=some (.int .i64 num)/\w'.cell? ⟨w.heap.size,d,none⟩=some (vs d)) 11 (by kernel_rfl) (by kernel_rfl) ?_
   simp only[List.take_succ_cons,List.take_zero,List.drop_succ_cons,List.drop_zero]
   have hHeld:(fun w':World=>w'.cell? ⟨wr.heap.size,0,none⟩=some (.int .i64 (d:Int))/\w'.cell? ⟨wr.heap.size,1,none⟩=some (.int .i64 num)/\w'.cell? ⟨w.heap.size,d,none⟩=some (vs d)) wd.drew:=by go_keep
   refine wpAnyH_take (i:=0) (oi:=_) (v:=?v0) rfl (by kernel_rfl) (by kernel_rfl) (by kernel_rfl) (fun _ _ _ h=>h) (Or.inl ⟨by rfl,?h0⟩) (by assumption) ?_
   case h0=>(intro w hSw;(try dsimp only at hSw);go_simp;(try with_reducible rfl))
   simp only[Act.put,List.setIfInBounds_toArray]
   refine wpAnyH_take (i:=1) (oi:=_) (v:=?v1) rfl (by kernel_rfl) (by kernel_rfl) (by kernel_rfl) (fun _ _ _ h=>h) (Or.inl ⟨by rfl,?h1⟩) (by assumption) ?_
   case h1=>(intro w hSw;(try dsimp only at hSw);go_simp;(try with_reducible rfl))
   simp only[Act.put,List.setIfInBounds_toArray]
   refine wpAnyH_take (i:=2) (oi:=_) (v:=?v2) rfl (by kernel_rfl) (by kernel_rfl) (by kernel_rfl) (fun _ _ _ h=>h) (Or.inl ⟨by rfl,?h2⟩) (by assumption) ?_
   case h2=>(intro w hSw;(try dsimp only at hSw);go_simp;(try with_reducible rfl))
   simp only[Act.put,List.setIfInBounds_toArray]
   refine wpAnyH_take (i:=3) (oi:=_) (v:=?v3) rfl (by kernel_rfl) (by kernel_rfl) (by kernel_rfl) (fun _ _ _ h=>h) (Or.inl ⟨by rfl,?h3⟩) (by assumption) ?_
   case h3=>(intro w hSw;(try dsimp only at hSw);go_simp;(try with_reducible rfl))
   simp only[Act.put,List.setIfInBounds_toArray]
   refine wpAnyH_take (i:=4) (oi:=_) (v:=?v4) rfl (by kernel_rfl) (by kernel_rfl) (by kernel_rfl) (fun _ _ _ h=>h) (Or.inl ⟨by rfl,?h4⟩) (by assumption) ?_
   case h4=>(intro w hSw;(try dsimp only at hSw);go_simp;(try with_reducible rfl))
   simp only[Act.put,List.setIfInBounds_toArray]
   refine wpAnyH_take (i:=5) (oi:=_) (v:=?v5) rfl (by kernel_rfl) (by kernel_rfl) (by kernel_rfl) (fun _ _ _ h=>h) (Or.inl ⟨by rfl,?h5⟩) (by assumption) ?_
   case h5=>(intro w hSw;(try dsimp only at hSw);go_simp;(try with_reducible rfl))
   simp only[Act.put,List.setIfInBounds_toArray]
   refine wpAnyH_take (i:=6) (oi:=_) (v:=?v6) rfl (by kernel_rfl) (by kernel_rfl) (by kernel_rfl) (fun _ _ _ h=>h) (Or.inl ⟨by rfl,?h6⟩) (by assumption) ?_
   case h6=>(intro w hSw;(try dsimp only at hSw);go_simp;(try with_reducible rfl))
   simp only[Act.put,List.setIfInBounds_toArray]
   refine wpAnyH_take (i:=7) (oi:=_) (v:=?v7) rfl (by kernel_rfl) (by kernel_rfl) (by kernel_rfl) (fun _ _ _ h=>h) (Or.inl ⟨by rfl,?h7⟩) (by assumption) ?_
   case h7=>(intro w hSw;(try dsimp only at hSw);go_simp;(try with_reducible rfl))
   simp only[Act.put,List.setIfInBounds_toArray]
   refine wpAnyH_ready (rs:=[8]) (by kernel_rfl) (by simp) ?_
   refine AllReadyH.cons (o:=_) rfl (fun K hK=>?_) AllReadyH.nil
   go_simp
   refine hK.out _ _ ?_ (fun hHeld8=>?_)
   ·go_keep
   clear hK K
   simp only[List.setIfInBounds_toArray]
   refine wpAnyH_ready (rs:=[9]) (by kernel_rfl) (by simp) ?_
   refine AllReadyH.cons (o:=_) rfl (fun K hK=>?_) AllReadyH.nil
   (refine VZ (v:=vs d) rfl (.tmp 24) (.tmp 27) _ rfl Vf (by decide) (by decide) (fun _ _ h=>h.one) rfl (((HR5.out.own d hd4).grow ((Below.refl _ wd).alloc (Nat.le_refl _) _)).drew) rfl (SlP.one (x:=num) HRE.out rfl _ (by simp)) HL.out (by simp;omega) ?_;intro v1 w4 hown4 hb4 hg4 hv4;have hsh4:=OwnP.shape hown4;simp only[List.length_append,List.length_singleton]at hsh4;obtain⟨A1,c1,hv1⟩:=hsh4;subst hv1;have hg4h:Hid (w4.heap[w.heap.size]?=some (.cells #[vs 0,vs 1,vs 2,vs 3] 183 (0,0))):=(hg4.block w.heap.size (by simp;omega) (fun e=>by have:=HLT.out _ e.symm;omega)).trans ((Qg hwd1).trans HR5.out.arr);have hc4:w4.cell? ⟨w.heap.size,d,none⟩=some (vs d):=(Qa hg4h.out).trans (ZG vs hd4);have hf4:w4.frozen? ⟨w.heap.size,d,none⟩=false:=Qb hg4h.out;have hx3:=(hg4.block wr.heap.size (by simp;omega) (fun e=>by have:=HLT.out _ e.symm;omega)).trans ((Qg hwd3).trans HXB.out);have hx4:Hid (w4.cell? ⟨wr.heap.size,0,none⟩=some (.int .i64 (d:Int))/\w4.cell? ⟨wr.heap.size,1,none⟩=some (.int .i64 num)/\w4.cell? ⟨w.heap.size,d,none⟩=some (vs d)):=⟨(Qa (i:=0) hx3).trans rfl,(Qa (i:=1) hx3).trans rfl,hc4⟩;clear hx3)
   refine hK.out _ _ ?_ (fun hHeld9=>?_)
   ·exact hx4.out
   clear hK K
   simp only[Act.put,List.setIfInBounds_toArray]
   refine wpAnyH_take (i:=10) (oi:=_) (v:=?v10) rfl (by kernel_rfl) (by kernel_rfl) (by kernel_rfl) (fun _ _ _ h=>h) (Or.inl ⟨by rfl,?h10⟩) (by assumption) ?_
   case h10=>(intro w hSw;(try dsimp only at hSw);go_simp;(try with_reducible rfl))
   simp only[Act.put,List.setIfInBounds_toArray]
   refine wpAnyH_done (by kernel_rfl) ?_ _
   change wpList _ _ _ _ _ _
   go_wp2_with fail
   go_roundw
   case rel=>
    refine⟨k+1,by omega,by go_num,fun i=>if i=d then .slice A1 ((numsL (l.take k) d).length+1) c1 else vs i,?_,?_⟩
    ·rw[HPD.out]
     exact Rows4.put (w:=(wd.alloc (.cells #[.int .i64 num] 2)).drew) ((HR5.out.grow ((Below.refl _ _).alloc (Nat.le_refl _) _)).same rfl) hd4 hown4 hg4 hv4
    ·exact (((HBW.out.alloc (by omega) _).drew.trans (hb4.mono (by omega))).setCell (Nat.le_refl _) _)
   case measure=>simp[intOf];omega
  ·obtain rfl:k=l.length:=by omega
   rw[List.take_of_length_le (Nat.le_refl _)]at hr4
   have c0:wr.cell? ⟨w.heap.size,0,none⟩=some (vs 0):=hr4.at (by omega)
   have c1:wr.cell? ⟨w.heap.size,1,none⟩=some (vs 1):=hr4.at (by omega)
   have c2:wr.cell? ⟨w.heap.size,2,none⟩=some (vs 2):=hr4.at (by omega)
   have c3:wr.cell? ⟨w.heap.size,3,none⟩=some (vs 3):=hr4.at (by omega)
   have HR:=hid hr4
   have HRR:=hid hR
   clear hr4 b3 hR
   go_wp2_with fail
   obtain⟨w1,rfl⟩:∃ w1:World,w1=wr:=⟨_,rfl⟩
   go_loopw [32] (fun i wr=>∃ k:Nat,k<=4/\i=.int .i64 k/\OfB l w1 k wr) (fun i _=>4-(intOf i).toNat)
   case atStart=>exact⟨0,by omega,rfl,fun _=>.slice none 0 0,Qd rfl,fun j _=>by rw[if_neg (Nat.not_lt_zero _)];exact OwnP.nil,(Below.refl _ _).alloc (Nat.le_refl _) _⟩
   case round=>
    obtain⟨k,hk,rfl,ps,hpa,hpo,hbi⟩:=hrel
    have hsi:=hbi.size
    have hsi2:w1.heap.size<wr.heap.size:=(Array.getElem?_eq_some_iff.1 hpa).1
    by_cases hk4:k<4
    ·have hki:(k:Int)<4:=by omega
     have hidx:∀ w,(Instr.index 183 (.agg #[vs 0,vs 1,vs 2,vs 3]) (.int .i64 (k:Int))).run Tryz.prog w=.ok (vs k) w:=fun w=>by
      match k,hk4 with
      |0,_=>rfl
      |1,_=>rfl
      |2,_=>rfl
      |3,_=>rfl
     have hnl:=ZP l k
     have HSL:Hid (SlP wr wr.heap.size 1 InE (vs k) (numsL l k)):=(HR.out.sl hk4 (by show (numsL l k).length<=Big;unfold Big;omega)).imp hbi hsi fun _ _ _ h=>h
     have HNB:Hid (∀ x∈numsL l k,numB x=true):=fun x hx=>by
      unfold numsL at hx
      obtain⟨d,hd,rfl⟩:=List.mem_map.1 hx
      have h1:=HRR.out d (List.mem_filter.1 hd).1
      simp[Dt.right]at h1
      simp[numB];omega
     have HPA:=hid hpa
     have HPO:=hid hpo
     have hpc:wr.cell? ⟨w1.heap.size,k,none⟩=some (ps k):=(Qa hpa).trans (ZG ps hk4)
     clear hpa hpo
     go_wp2_with fail
     refine (zZ3 (numsL l k) (vs k) wr HSL.out HNB.out (by omega)).mono ?_
     rintro e w2 ⟨v2,rfl,ho2,hb2⟩
     obtain⟨A2,n2,rfl⟩:=ho2.shape
     have hp2:=(hb2.block w1.heap.size hsi2).trans HPA.out
     have hc2:w2.cell? ⟨w1.heap.size,k,none⟩=some (ps k):=(Qa hp2).trans (ZG ps hk4)
     have hf2:w2.frozen? ⟨w1.heap.size,k,none⟩=false:=Qb hp2
     have HP2:=hid hp2
     have HO2:=hid ho2
     clear hp2 ho2 hpc hidx
     go_wp2_with fail
     go_roundw
     case rel=>
      refine⟨k+1,by omega,by go_num,fun j=>if j=k then .slice A2 (ofL (numsL l k)).length n2 else ps j,?_,fun j hj=>?_,(hbi.trans (hb2.mono hsi)).setCell (Nat.le_refl _) _⟩
      ·rw[Qe HP2.out,Vp ps hk4]
      ·by_cases e:j=k
       ·subst e
        simp only[if_true,if_pos (Nat.lt_succ_self j)]
        exact (HO2.out.mono (by omega)).setOther (by simp) _
       ·have e2:(if j<k+1 then ofL (numsL l (j:Int)) else [])=(if j<k then ofL (numsL l (j:Int)) else []):=by
         by_cases e3:j<k
         ·rw[if_pos e3,if_pos (by omega)]
         ·rw[if_neg e3,if_neg (by omega)]
        simp only[if_neg e]
        rw[e2]
        exact ((HPO.out j hj).grow hb2).setOther (by simp) _
     case measure=>simp[intOf];omega
    ·obtain rfl:k=4:=by omega
     have d0:wr.cell? ⟨w1.heap.size,0,none⟩=some (ps 0):=Qa (i:=0) hpa
     have d1:wr.cell? ⟨w1.heap.size,1,none⟩=some (ps 1):=Qa (i:=1) hpa
     have d2:wr.cell? ⟨w1.heap.size,2,none⟩=some (ps 2):=Qa (i:=2) hpa
     have d3:wr.cell? ⟨w1.heap.size,3,none⟩=some (ps 3):=Qa (i:=3) hpa
     have HOL:∀ j:Nat,(ofL (numsL l (j:Int))).length<=100001:=fun j=>by have:=Vi (numsL l (j:Int));have:=ZP l (j:Int);omega
     have HSP:Hid (∀ j,j<4->SlP wr wr.heap.size 2 RuE (ps j) (ofL (numsL l (j:Int)))):=fun j hj=>by
      have:=hpo j hj
      rw[if_pos hj]at this
      exact this.sl (by have:=HOL j;unfold Big;omega)
     have HOLH:=hid HOL
     clear hpa hpo HOL
     go_wp2_with fail
     refine (V0 (fun j=>ofL (numsL l (j:Int))) ps wr HSP.out (fun j _=>by have:=HOLH.out j;show (ofL _).length<=_;omega)).mono ?_
     rintro e w2 ⟨v2,rfl,ho2,hb2⟩
     go_wp2_with fail
     go_ret2
     exact⟨_,rfl,ho2.mono (by omega),(hb.trans (hbi.mono hsz)).trans (hb2.mono (by omega))⟩
def zZ7 (t:Tr)(w:World)(e:Ending)(w':World):Prop:=
 ∃ v n,e=.returned (.tuple #[v,.int .i64 n])/\n=(if t.right 5 then 0 else 1)/\OwnP w' w.heap.size 45 3 SpE v (if t.right 5 then ctxOf t.dots else [])/\Below w.heap.size w w'
theorem YB (t:Tr)(ve vk:Value)(w:World)(h:t.rd w w.heap.size ve vk)(hN:t.sz<=90000) :
  Calls Tryz.prog 68 #[.agg #[ve,vk]] w (zZ7 t w):=by
 have HC:Hid (∀ w',Below w.heap.size w w'->t.rd w' w'.heap.size ve vk):=fun w' hb=>Qi hb hb.size _ _ _ h
 have hdl:=Zd t
 obtain⟨A3,n3,A4,n4,rfl,rfl⟩:=Qj h
 have hb0:=(Below.refl w.heap.size w).alloc (Nat.le_refl _) (.cells #[.slice A3 t.es.length n3,.slice A4 t.ks.length n4] 25)
 clear h
 go_enter Tryz.func68,Tryz.ntmps68
 go_wp2_with fail
 refine (QH t _ _ _ (HC.out _ hb0)).mono ?_
 rintro e w1 ⟨rfl,hb1⟩
 have hs1:=hb1.size
 simp only[World.size_alloc]at hs1
 have hB1:Below w.heap.size w w1:=hb0.trans (hb1.mono (by simp))
 have c0:w1.cell? ⟨w.heap.size,0,none⟩=some (.slice A3 t.es.length n3):=by rw[hb1.cell (p:=⟨w.heap.size,0,none⟩) (by simp)];simp
 have c1:w1.cell? ⟨w.heap.size,1,none⟩=some (.slice A4 t.ks.length n4):=by rw[hb1.cell (p:=⟨w.heap.size,1,none⟩) (by simp)];simp
 cases hr:t.right 5
 ·have HR:=hid hr
  clear hr
  go_wp2_with fail
  go_ret2
  exact⟨_,_,rfl,by rw[HR.out];rfl,by rw[HR.out];exact OwnP.nil,hB1⟩
 ·have HR:=hid hr
  have HD:=hid (Q3 t 5 hr)
  clear hr
  go_wp2_with fail
  refine (qU2 t _ _ _ (HC.out _ hB1) (by omega)).mono ?_
  rintro e w2 ⟨v2,rfl,ho2,hb2⟩
  have hs2:=hb2.size
  have hsl:=ho2.sl (by unfold Big;omega)
  clear ho2
  go_wp2_with fail
  refine (X5 t.dots v2 w2 hsl HD.out (by omega)).mono ?_
  rintro e w3 ⟨v3,rfl,ho3,hb3⟩
  go_wp2_with fail
  go_ret2
  exact⟨_,_,rfl,by rw[HR.out];rfl,by rw[HR.out];exact ho3.mono (by omega),(hB1.trans (hb2.mono (by omega))).trans (hb3.mono (by omega))⟩
theorem zYg {t:Tr}(h:t.right 5=true)(d:Dt):cHas (ctxOf t.dots) d=hasC (ctxOf t.dots) d:=zZ4 (Qr (Q3 t 5 h)) d
def chkI (t:Tr)(d:Dt):Int:=if chkT t d then 0 else 1
theorem Zn (t:Tr)(d:Dt)(ve vk:Value)(w:World)(h:t.rd w w.heap.size ve vk)(hN:t.sz<=90000) :
  Calls Tryz.prog 98 #[.agg #[ve,vk],.agg #[.int .i64 d.dc,.int .i64 d.n]] w fun e w'=>e=.returned (.int .i64 (chkI t d))/\Below w.heap.size w w':=by
 have HC:Hid (∀ w',Below w.heap.size w w'->t.rd w' w'.heap.size ve vk):=fun w' hb=>Qi hb hb.size _ _ _ h
 have hcl:(ctxOf t.dots).length<=900000:=by have:=Zl t.dots 4;have:=Zd t;unfold ctxOf;omega
 have HCL:=hid hcl
 obtain⟨A3,n3,A4,n4,rfl,rfl⟩:=Qj h
 have hb0:=((Below.refl w.heap.size w).alloc (Nat.le_refl _) (.cells #[.slice A3 t.es.length n3,.slice A4 t.ks.length n4] 25)).alloc (by simp) (.cells #[.int .i64 d.dc,.int .i64 d.n] 78)
 clear h hcl
 go_enter Tryz.func98,Tryz.ntmps98
 go_wp2_with fail
 refine (YB t _ _ _ (HC.out _ hb0) hN).mono ?_
 rintro e w1 ⟨v1,n1,rfl,hn1,ho1,hb1⟩
 have hs1:=hb1.size
 simp only[World.size_alloc]at hs1
 have hB1:Below w.heap.size w w1:=hb0.trans (hb1.mono (by simp;omega))
 have c0:w1.cell? ⟨w.heap.size+1,0,none⟩=some (.int .i64 d.dc):=by rw[hb1.cell (p:=⟨w.heap.size+1,0,none⟩) (by simp)];simp
 have c1:w1.cell? ⟨w.heap.size+1,1,none⟩=some (.int .i64 d.n):=by rw[hb1.cell (p:=⟨w.heap.size+1,1,none⟩) (by simp)];simp
 cases hr:t.right 5
 ·have HR:Hid (chkT t d=false):=by unfold Hid chkT;rw[hr];rfl
  rw[hr]at hn1
  obtain rfl:n1=1:=hn1
  clear hr ho1
  go_wp2_with fail
  go_ret
  exact⟨Qn (by rw[chkI,HR.out];rfl),hB1⟩
 rw[hr]at hn1 ho1
 obtain rfl:n1=0:=hn1
 simp only[if_true]at ho1
 have hsl:=ho1.sl (by have:=HCL.out;unfold Big;omega)
 have HSL:=hid hsl
 cases hd:d.right
 ·have HR:Hid (chkT t d=false):=by unfold Hid chkT;rw[hr,hd];rfl
  have HD:=hid hd
  clear hr ho1 hsl hd
  go_wp2_with (go_at_call 64;refine (QC d _).mono ?_;rw[HD.out];rintro e w2 ⟨rfl,hb2⟩)
  go_ret
  exact⟨Qn (by rw[chkI,HR.out];rfl),hB1.trans (hb2.mono (by omega))⟩
 ·have HR:Hid (chkT t d = !cHas (ctxOf t.dots) d):=by unfold Hid chkT;rw[hr,hd,zYg hr];rfl
  have HD:=hid hd
  clear hr ho1 hsl hd
  go_wp2_with fail
  refine (QC d _).mono ?_
  rw[HD.out]
  rintro e w2 ⟨rfl,hb2⟩
  have hs2:=hb2.size
  have d0:w2.cell? ⟨w.heap.size+1,0,none⟩=some (.int .i64 d.dc):=(hb2.cell (p:=⟨w.heap.size+1,0,none⟩) (by show w.heap.size+1<_;omega)).trans c0
  have d1:w2.cell? ⟨w.heap.size+1,1,none⟩=some (.int .i64 d.n):=(hb2.cell (p:=⟨w.heap.size+1,1,none⟩) (by show w.heap.size+1<_;omega)).trans c1
  go_wp2_with fail
  refine (Xx (ctxOf t.dots) d v1 w2 (HSL.out.imp hb2 hs2 fun _ _ _ h=>h) HCL.out).mono ?_
  rintro e w3 ⟨rfl,hb3⟩
  have hB3:=(hB1.trans (hb2.mono (by omega))).trans (hb3.mono (show w.heap.size<=_ by omega))
  generalize cHas (ctxOf t.dots) d=q at *
  cases q
  all_goals
   go_wp2_with fail
   go_ret
   exact⟨Qn (by rw[chkI,HR.out];rfl),hB3⟩
def RetCE (w:World)(t:Tr)(c:List Sp)(k:Int)(e:Ending)(w':World):Prop:=
 ∃ ve vk vc,e=.returned (.tuple #[.agg #[ve,vk,vc],.int .i64 k])/\t.rda w' (fun b=>w.heap.size<=b/\b<w'.heap.size) ve vk/\SlA w' (fun b=>w.heap.size<=b/\b<w'.heap.size) 3 SpE vc c/\Below w.heap.size w w'
theorem Zo {t:Tr}{d:Dt}(h:chkT t d=true):d.right=true:=by
 unfold chkT at h;simp at h;exact h.1.2
theorem Yh {t:Tr}{d:Dt}(h:chkT t d=true):t.right 5=true:=by
 unfold chkT at h;simp at h;exact h.1.1
theorem SlA.one {α:Type}{w:World}{ok:Nat->Prop}{sz n:Nat}{E:α->List Value->Prop}{x:α}{cs:List Value}{e:TypeId}{z:Nat×Nat}(hE:E x cs)(hl:cs.length=sz)(h:w.heap[n]?=some (.cells cs.toArray e z))(ho:ok n) :
  SlA w ok sz E (.slice (some ⟨n,0,none⟩) 1 1) [x]:=by
 refine⟨_,1,rfl,Nat.le_refl _,by simp[Big],fun _=>⟨_,0,rfl,ho,fun j y hy=>?_⟩⟩
 match j,hy with
 |0,hy=>
  simp at hy;subst hy
  exact⟨cs,hE,hl,fun i u hi=>by rw[Qa h];simpa using hi⟩
theorem En.Ok.mk' {d:Dt}{n:Int}(hd:d.Ok)(hn:I64 n):En.Ok ⟨d.dc,d.n,ByteArray.empty,n⟩:=⟨hd.dc,hd.n,hn,by simp[Big]⟩
theorem QO (l:List Dt):(ctxOf l).length<=4*(l.length+1):=Zl l 4
theorem YC (a b:List Sp)(how:Int):(ctxBy a b how).length<=4*(2*a.length+2*b.length+1):=Zk a b how 4
theorem ZV {d:Dt}(h:d.right=true):∀ x∈[d],x.right=true:=fun x hx=>by simp at hx;subst hx;exact h
def seenC (t:Tr)(d:Dt):List Sp:=ctxBy (ctxOf t.dots) (ctxOf [d]) 0
theorem Yi (t:Tr)(d:Dt):(seenC t d).length<=4*(8*t.sz+30):=by
 have h1:=YC (ctxOf t.dots) (ctxOf [d]) 0
 have h2:=QO t.dots
 have h3:=QO [d]
 have h4:=Zd t
 unfold seenC
 simp at h3
 omega
theorem qX7 (t:Tr)(d:Dt)(ve vk:Value)(w:World)(h:t.rd w w.heap.size ve vk)(hN:t.sz<=4000)(hr:t.right 5=true)(hd:d.right=true)(ho:d.Ok) :
  Calls Tryz.prog 170 #[.agg #[ve,vk],.agg #[.int .i64 d.dc,.int .i64 d.n]] w (RetO w 45 3 (fun _=>SpE) (seenC t d)):=by
 have HC:Hid (∀ w',Below w.heap.size w w'->t.rd w' w'.heap.size ve vk):=fun w' hb=>Qi hb hb.size _ _ _ h
 have hdl:=Zd t
 have h2:=QO t.dots
 have h3:=QO [d]
 simp only[List.length_singleton]at h3
 have HAA:=hid (Qr (Q3 t 5 hr))
 have HAB:=hid (Qr (ZV hd))
 have HDR:=hid (ZV hd)
 obtain⟨A3,n3,A4,n4,rfl,rfl⟩:=Qj h
 have hb0:=((Below.refl w.heap.size w).alloc (Nat.le_refl _) (.cells #[.slice A3 t.es.length n3,.slice A4 t.ks.length n4] 25)).alloc (by simp) (.cells #[.int .i64 d.dc,.int .i64 d.n] 78)
 clear h
 go_enter Tryz.func170,Tryz.ntmps170
 go_wp2_with fail
 refine (YB t _ _ _ (HC.out _ hb0) (by omega)).mono ?_
 rintro e w1 ⟨v1,n1,rfl,hn1,ho1,hb1⟩
 rw[hr]at ho1 hn1
 obtain rfl:n1=0:=hn1
 rw[if_pos rfl]at ho1
 have hs1:=hb1.size
 simp only[World.size_alloc]at hs1
 have hB1:Below w.heap.size w w1:=hb0.trans (hb1.mono (by simp;omega))
 have c0:w1.cell? ⟨w.heap.size+1,0,none⟩=some (.int .i64 d.dc):=by rw[hb1.cell (p:=⟨w.heap.size+1,0,none⟩) (by simp)];simp
 have c1:w1.cell? ⟨w.heap.size+1,1,none⟩=some (.int .i64 d.n):=by rw[hb1.cell (p:=⟨w.heap.size+1,1,none⟩) (by simp)];simp
 have HO1:=hid ho1
 clear hr hd ho1
 go_wp2_with fail
 refine (X5 [d] _ _ (SlP.oneB (E:=DtE) (x:=d) (cs:=[.int .i64 d.dc,.int .i64 d.n]) ⟨rfl,ho⟩ rfl _ rfl (by simp)) HDR.out (by simp)).mono ?_
 rintro e w2 ⟨v2,rfl,ho2,hb2⟩
 have hs2:=hb2.size
 simp only[World.size_alloc]at hs2
 have hb2':Below w1.heap.size w1 w2:=((Below.refl _ w1).alloc (Nat.le_refl _) _).trans (hb2.mono (by simp))
 have hsl1:=(HO1.out.grow hb2').sl (by unfold Big;omega)
 have hsl2:=ho2.sl (by unfold Big;omega)
 have H1:=hid hsl1
 have H2:=hid hsl2
 clear hsl1 hsl2 ho2
 go_wp2_with fail
 refine (YS (ctxOf t.dots) (ctxOf [d]) v1 v2 w2 H1.out H2.out HAA.out HAB.out (by omega) (by omega)).mono ?_
 rintro e w3 ⟨v3,rfl,ho3,hb3⟩
 go_wp2_with fail
 go_ret
 exact⟨_,rfl,ho3.mono (by omega),(hB1.trans (hb2'.mono (by omega))).trans (hb3.mono (by omega))⟩
def onB (t:Tr):Bool:=t.right 5&&decide (0<t.es.length)
theorem zZ8 (t:Tr)(w:World)(ve vk:Value)(h:t.rd w w.heap.size ve vk) :
  Calls Tryz.prog 85 #[.agg #[ve,vk]] w fun e w'=>e=.returned (.bool (onB t))/\Below w.heap.size w w':=by
 have HC:Hid (∀ w',Below w.heap.size w w'->t.rd w' w'.heap.size ve vk):=fun w' hb=>Qi hb hb.size _ _ _ h
 have hfit:=Kz _ _ _ h
 have hel:t.es.length<=140737488355328:=by obtain⟨es,ks⟩:=t;exact hfit.1
 obtain⟨A3,n3,A4,n4,rfl,rfl⟩:=Qj h
 have hb0:=(Below.refl w.heap.size w).alloc (Nat.le_refl _) (.cells #[.slice A3 t.es.length n3,.slice A4 t.ks.length n4] 25)
 clear h hfit
 go_enter Tryz.func85,Tryz.ntmps85
 go_wp2_with fail
 refine (QH t _ _ _ (HC.out _ hb0)).mono ?_
 rintro e w1 ⟨rfl,hb1⟩
 have hs1:=hb1.size
 simp only[World.size_alloc]at hs1
 have hB1:Below w.heap.size w w1:=hb0.trans (hb1.mono (by simp))
 have c0:w1.cell? ⟨w.heap.size,0,none⟩=some (.slice A3 t.es.length n3):=by rw[hb1.cell (p:=⟨w.heap.size,0,none⟩) (by simp)];simp
 cases hr:t.right 5
 ·have HR:Hid (onB t=false):=by unfold Hid onB;rw[hr];rfl
  clear hr
  go_wp2_with fail
  go_ret
  exact⟨Qf HR.out.symm,hB1⟩
 ·have HR:Hid (onB t=decide (0<t.es.length)):=by unfold Hid onB;rw[hr];rfl
  clear hr
  go_wp2_with fail
  go_ret
  exact⟨Qf HR.out.symm,hB1⟩
def disC (t:Tr)(d:Dt):List Sp:=if chkT t d then seenC t d else []
theorem qQa (t:Tr)(d:Dt)(ve vk:Value)(w:World)(h:t.rd w w.heap.size ve vk)(hN:t.sz<=4000)(hd:d.Ok) :
  Calls Tryz.prog 139 #[.agg #[ve,vk],.agg #[.int .i64 d.dc,.int .i64 d.n]] w (RetCE w (.mk [] []) (disC t d) (chkI t d)):=by
 have HC:Hid (∀ w',Below w.heap.size w w'->t.rd w' w'.heap.size ve vk):=fun w' hb=>Qi hb hb.size _ _ _ h
 obtain⟨A3,n3,A4,n4,rfl,rfl⟩:=Qj h
 have hb0:=(((Below.refl w.heap.size w).alloc (Nat.le_refl _) (.cells #[.slice A3 t.es.length n3,.slice A4 t.ks.length n4] 25)).alloc (by simp) (.cells #[.int .i64 d.dc,.int .i64 d.n] 78)).alloc (by simp;omega) (.cells #[.slice none 0 0,.slice none 0 0,.slice none 0 0] 29)
 clear h
 go_enter Tryz.func139,Tryz.ntmps139
 go_wp2_with fail
 refine (Zn t d _ _ _ (HC.out _ hb0) (by omega)).mono ?_
 rintro e w1 ⟨rfl,hb1⟩
 have hs1:=hb1.size
 simp only[World.size_alloc]at hs1
 have hB1:Below w.heap.size w w1:=hb0.trans (hb1.mono (by simp;omega))
 have c0:w1.cell? ⟨w.heap.size,0,none⟩=some (.slice A3 t.es.length n3):=by
  rw[hb1.cell (p:=⟨w.heap.size,0,none⟩) (by simp;omega)]
  rw[World.cell?_alloc_lt _ _ _ (by simp;omega),World.cell?_alloc_lt _ _ _ (by simp)];simp
 have c1:w1.cell? ⟨w.heap.size,1,none⟩=some (.slice A4 t.ks.length n4):=by
  rw[hb1.cell (p:=⟨w.heap.size,1,none⟩) (by simp;omega)]
  rw[World.cell?_alloc_lt _ _ _ (by simp;omega),World.cell?_alloc_lt _ _ _ (by simp)];simp
 have d0:w1.cell? ⟨w.heap.size+1,0,none⟩=some (.int .i64 d.dc):=by rw[hb1.cell (p:=⟨w.heap.size+1,0,none⟩) (by simp),World.cell?_alloc_lt _ _ _ (by simp)];simp
 have d1:w1.cell? ⟨w.heap.size+1,1,none⟩=some (.int .i64 d.n):=by rw[hb1.cell (p:=⟨w.heap.size+1,1,none⟩) (by simp),World.cell?_alloc_lt _ _ _ (by simp)];simp
 have hg:w1.heap[w.heap.size+2]?=some (.cells #[.slice none 0 0,.slice none 0 0,.slice none 0 0] 29 (0,0)):=(hb1.block (w.heap.size+2) (by simp)).trans (Qd (by simp))
 have HG:=hid hg
 have k0:w1.cell? ⟨w.heap.size+2,0,none⟩=some (.slice none 0 0):=Qa (i:=0) hg
 have k1:w1.cell? ⟨w.heap.size+2,1,none⟩=some (.slice none 0 0):=Qa (i:=1) hg
 have k2:w1.cell? ⟨w.heap.size+2,2,none⟩=some (.slice none 0 0):=Qa (i:=2) hg
 have z0:=Qb (i:=0) hg
 have z1:=Qb (i:=1) hg
 have z2:=Qb (i:=2) hg
 clear hg hb1
 cases hc:chkT t d
 ·have HE:Hid (chkI t d=1):=by unfold Hid chkI;rw[hc];rfl
  have HD:Hid (disC t d=[]):=by unfold Hid disC;rw[hc];rfl
  rw[HE.out]
  clear hc
  go_wp2_with fail
  obtain⟨r0,r1,r2,hK,hS⟩:=box3 HG.out (.slice none 0 0) (.slice none 0 0) (.slice none 0 0)
  have hBW:=((hB1.setCell (p:=⟨w.heap.size+2,0,none⟩) (by simp) (.slice none 0 0)).setCell (p:=⟨w.heap.size+2,1,none⟩) (by simp) (.slice none 0 0)).setCell (p:=⟨w.heap.size+2,2,none⟩) (by simp) (.slice none 0 0)
  refine bodyPost_ret (v:=.tuple #[.agg #[.slice none 0 0,.slice none 0 0,.slice none 0 0],.int .i64 1]) (by simp[results,Tryz.results139,go_sem,r0,r1,r2]) rfl ⟨_,_,_,by rw[HE.out],?_,?_,hBW⟩
  ·exact Qp _ _
  ·rw[HD.out];exact SlA.nil
 ·have HE:Hid (chkI t d=0):=by unfold Hid chkI;rw[hc];rfl
  have HD:Hid (disC t d=seenC t d):=by unfold Hid disC;rw[hc];rfl
  have HDR:=hid (Zo hc)
  have HTR:=hid (Yh hc)
  rw[HE.out]
  clear hc
  go_wp2_with fail
  refine (qX7 t d _ _ w1 (HC.out _ hB1) hN HTR.out HDR.out hd).mono ?_
  rintro e w2 ⟨v2,rfl,ho2,hb2⟩
  obtain⟨A2,c2,rfl⟩:=ho2.shape
  have hs2:=hb2.size
  have hB2:Below w.heap.size w w2:=hB1.trans (hb2.mono (by omega))
  have HG2:=hid ((hb2.block (w.heap.size+2) (by omega)).trans HG.out)
  clear k0 k1 k2 z0 z1 z2 c0 c1 d0 d1
  have k0:w2.cell? ⟨w.heap.size+2,0,none⟩=some (.slice none 0 0):=Qa (i:=0) HG2.out
  have k1:w2.cell? ⟨w.heap.size+2,1,none⟩=some (.slice none 0 0):=Qa (i:=1) HG2.out
  have k2:w2.cell? ⟨w.heap.size+2,2,none⟩=some (.slice none 0 0):=Qa (i:=2) HG2.out
  have z0:=Qb (i:=0) HG2.out
  have z1:=Qb (i:=1) HG2.out
  have z2:=Qb (i:=2) HG2.out
  have HO2:=hid ho2
  have hsc:=Yi t d
  clear ho2
  go_wp2_with fail
  obtain⟨r0,r1,r2,hK,hS⟩:=box3 HG2.out (.slice none 0 0) (.slice none 0 0) (.slice A2 (seenC t d).length c2)
  have hBW:=((hB2.setCell (p:=⟨w.heap.size+2,0,none⟩) (by simp) (.slice none 0 0)).setCell (p:=⟨w.heap.size+2,1,none⟩) (by simp) (.slice none 0 0)).setCell (p:=⟨w.heap.size+2,2,none⟩) (by simp) (.slice A2 (seenC t d).length c2)
  refine bodyPost_ret (v:=.tuple #[.agg #[.slice none 0 0,.slice none 0 0,.slice A2 (seenC t d).length c2],.int .i64 0]) (by simp[results,Tryz.results139,go_sem,r0,r1,r2]) rfl ⟨_,_,_,by rw[HE.out],Qp _ _,?_,hBW⟩
  rw[HD.out]
  refine (HO2.out.sla (by unfold Big;omega)).up (fun b hb=>hK b (by have:=hb.1;omega)) (fun b hb=>⟨by have:=hb.1;omega,by rw[hS];exact hb.2.1⟩) (fun _ _ _ h=>h)
def sckB (t:Tr)(s:ByteArray)(d:Dt):Bool:=chkT t d&&keyB s
def sckI (t:Tr)(s:ByteArray)(d:Dt):Int:=if sckB t s d then 0 else 1
theorem KV (t:Tr)(s:ByteArray)(d:Dt)(ve vk:Value)(w:World)(h:t.rd w w.heap.size ve vk)(hs:s.size<=Big)(hN:t.sz<=90000) :
  Calls Tryz.prog 171 #[.agg #[ve,vk],.string s,.agg #[.int .i64 d.dc,.int .i64 d.n]] w fun e w'=>e=.returned (.int .i64 (sckI t s d))/\Below w.heap.size w w':=by
 have HC:Hid (∀ w',Below w.heap.size w w'->t.rd w' w'.heap.size ve vk):=fun w' hb=>Qi hb hb.size _ _ _ h
 obtain⟨A3,n3,A4,n4,rfl,rfl⟩:=Qj h
 have hb0:=((Below.refl w.heap.size w).alloc (Nat.le_refl _) (.cells #[.slice A3 t.es.length n3,.slice A4 t.ks.length n4] 25)).alloc (by simp) (.cells #[.int .i64 d.dc,.int .i64 d.n] 78)
 unfold Big at hs
 clear h
 go_enter Tryz.func171,Tryz.ntmps171
 go_wp2_with fail
 refine (Zn t d _ _ _ (HC.out _ hb0) (by omega)).mono ?_
 rintro e w1 ⟨rfl,hb1⟩
 have hB1:Below w.heap.size w w1:=hb0.trans (hb1.mono (by simp;omega))
 clear hb1 hb0
 cases hc:chkT t d
 ·have HI:Hid (chkI t d=1):=by unfold Hid chkI;rw[hc];rfl
  have HR:Hid (sckI t s d=1):=by unfold Hid sckI sckB;rw[hc];rfl
  rw[HI.out]
  clear hc
  go_wp2_with fail
  go_ret
  exact⟨Qn HR.out.symm,hB1⟩
 have HI:Hid (chkI t d=0):=by unfold Hid chkI;rw[hc];rfl
 rw[HI.out]
 cases hk:keyB s
 ·have HR:Hid (sckI t s d=1):=by unfold Hid sckI sckB;rw[hc,hk];rfl
  have hkb:¬(1<=s.size/\s.size<=30):=by simpa[keyB] using hk
  clear hc hk
  by_cases hz:s.size<1
  ·have t1:decide ((s.size:Int)<1)=true:=by simp;omega
   go_wp2_with fail
   go_ret
   exact⟨Qn HR.out.symm,hB1⟩
  ·have t1:decide ((s.size:Int)<1)=false:=by simp;omega
   have t2:decide ((30:Int)<s.size)=true:=by simp;omega
   go_wp2_with fail
   go_ret
   exact⟨Qn HR.out.symm,hB1⟩
 ·have HR:Hid (sckI t s d=0):=by unfold Hid sckI sckB;rw[hc,hk];rfl
  have hkb:1<=s.size/\s.size<=30:=by simpa[keyB] using hk
  have t1:decide ((s.size:Int)<1)=false:=by simp;omega
  have t2:decide ((30:Int)<s.size)=false:=by simp;omega
  clear hc hk
  go_wp2_with fail
  go_ret
  exact⟨Qn HR.out.symm,hB1⟩
theorem Vt (key x:ByteArray)(A A':Option Addr)(n c n' c':Nat)(B:Nat)(w:World)(hc:w.cell? ⟨B,0,none⟩=some (.string key))(hB:B<w.heap.size) :
  Calls Tryz.prog 204 #[.agg #[.string x,.slice A n c,.slice A' n' c'],.pointer (some ⟨B,0,none⟩)] w fun e w'=>e=.returned (.bool (decide (x=key)))/\Below w.heap.size w w':=by
 have hne:B≠w.heap.size:=by omega
 have HE:Hid ((x.toList==key.toList)=decide (x=key)):=by
  unfold Hid;rw[Bool.eq_iff_iff];simp[QL]
 go_enter Tryz.func204,Tryz.ntmps204
 go_wp2_with fail
 go_ret
 exact⟨Qf HE.out,by go_grown⟩
theorem qJt {key:ByteArray}{B:Nat}{w:World}(hc:w.cell? ⟨B,0,none⟩=some (.string key))(hB:B<w.heap.size):JO 204 #[.pointer (some ⟨B,0,none⟩)] (fun x=>decide (x=key)) w:=
 ⟨enters_of Tryz.func204 (by kernel_rfl) rfl,fun x A A' n c n' c' W _ hW=>Vt key x A A' n c n' c' B W ((hW.cell (p:=⟨B,0,none⟩) hB).trans hc) (by have:=hW.size;omega)⟩
def hasK (t:Tr)(s:ByteArray):Bool:=t.ks.any fun y=>decide (y.1=s)
theorem qJu (t:Tr)(s:ByteArray)(ve vk:Value)(w:World)(h:t.rd w w.heap.size ve vk) :
  Calls Tryz.prog 172 #[.agg #[ve,vk],.string s] w fun e w'=>e=.returned (.bool (hasK t s))/\Below w.heap.size w w':=by
 have HK:Hid (∀ w',Below w.heap.size w w'->SlP w' w'.heap.size 3 (KdE w' w'.heap.size) vk t.ks):=fun w' hb=>Xs (Qi hb hb.size _ _ _ h)
 obtain⟨A3,n3,A4,n4,rfl,rfl⟩:=Qj h
 clear h
 go_enter Tryz.func172,Tryz.ntmps172
 go_wp2_with fail
 refine (KH (fun y=>decide (y=s)) _ _ t.ks _ _ (HK.out _ (by go_grown)) (qJt (key:=s) (B:=w.heap.size+1) (by simp) (by simp))).mono ?_
 rintro e w1 ⟨rfl,hb1⟩
 go_wp2_with fail
 go_ret
 exact⟨Qf rfl,Below.trans (by go_grown) (hb1.mono (by simp;omega))⟩
theorem qJv {t:Tr}(h:t.right 5=true)(s:ByteArray):(kidT t s).right 5=true:=qX1 _ 4 5 (KF (n:=4) h (by omega) s) (by omega)
theorem J3 (t:Tr)(s:ByteArray)(d:Dt)(ve vk:Value)(w:World)(h:t.rd w w.heap.size ve vk)(hs:s.size<=Big)(hN:t.sz<=4000)(hr:t.right 5=true)(hd:d.right=true)(ho:d.Ok) :
  Calls Tryz.prog 173 #[.agg #[ve,vk],.string s,.agg #[.int .i64 d.dc,.int .i64 d.n]] w (RetO w 45 3 (fun _=>SpE) (seenC (kidT t s) d)):=by
 have HC:Hid (∀ w',Below w.heap.size w w'->t.rd w' w'.heap.size ve vk):=fun w' hb=>Qi hb hb.size _ _ _ h
 have hk5:=qJv hr s
 have hks:=Yz t s
 have hG:tgetT t [s]=kidT t s:=by unfold tgetT;rw[hr];rfl
 have HSN:Hid (seenC (kidT t s) d=ctxBy (ctxOf (kidT t s).dots) (ctxOf [d]) 0):=rfl
 generalize kidT t s=u at *
 have hdl:=Zd u
 have h2:=QO u.dots
 have h3:=QO [d]
 simp only[List.length_singleton]at h3
 have HAA:=hid (Qr (Q3 u 5 hk5))
 have HAB:=hid (Qr (ZV hd))
 have HDR:=hid (ZV hd)
 obtain⟨A3,n3,A4,n4,rfl,rfl⟩:=Qj h
 have hb0:=((Below.refl w.heap.size w).alloc (Nat.le_refl _) (.cells #[.slice A3 t.es.length n3,.slice A4 t.ks.length n4] 25)).alloc (by simp) (.cells #[.int .i64 d.dc,.int .i64 d.n] 78)
 have hb1:Below w.heap.size w (((w.alloc (.cells #[.slice A3 t.es.length n3,.slice A4 t.ks.length n4] 25)).alloc (.cells #[.int .i64 d.dc,.int .i64 d.n] 78)).alloc (.cells #[.string s] 9)):=hb0.alloc (by simp;omega) _
 clear h hr hd
 go_enter Tryz.func173,Tryz.ntmps173
 go_wp2_with fail
 refine (Xt t [s] _ _ _ _ (HC.out _ hb1) (SlP.oneB (E:=StE) (n:=w.heap.size+1+1) (x:=s) (cs:=[.string s]) ⟨rfl,hs⟩ rfl _ (by simp) (by simp)) (by omega)).mono ?_
 rw[hG]
 rintro e w1 ⟨ve1,vk1,rfl,hrd1,hb2⟩
 obtain⟨A5,n5,A6,n6,rfl,rfl⟩:=Qk hrd1
 have hs1:=hb2.size
 simp only[World.size_alloc]at hs1
 have hB1:Below w.heap.size w w1:=hb1.trans (hb2.mono (by simp;omega))
 have c0:w1.cell? ⟨w.heap.size+1,0,none⟩=some (.int .i64 d.dc):=by
  rw[hb2.cell (p:=⟨w.heap.size+1,0,none⟩) (by simp),World.cell?_alloc_lt _ _ _ (by simp)];simp
 have c1:w1.cell? ⟨w.heap.size+1,1,none⟩=some (.int .i64 d.n):=by
  rw[hb2.cell (p:=⟨w.heap.size+1,1,none⟩) (by simp),World.cell?_alloc_lt _ _ _ (by simp)];simp
 have HU:=hid (Zu hrd1 (fun b hb=>hb.2) (Below.refl _ w1))
 have HK5:=hid hk5
 clear hrd1 hb2 hG hk5
 go_wp2_with fail
 refine (YB u _ _ w1 HU.out (by omega)).mono ?_
 rintro e w2 ⟨v2,n2,rfl,hn2,ho2,hb2⟩
 rw[HK5.out]at ho2 hn2
 obtain rfl:n2=0:=hn2
 rw[if_pos rfl]at ho2
 obtain⟨A7,n7,rfl⟩:=ho2.shape
 have hs2:=hb2.size
 have hB2:Below w.heap.size w w2:=hB1.trans (hb2.mono (by omega))
 have d0:w2.cell? ⟨w.heap.size+1,0,none⟩=some (.int .i64 d.dc):=(hb2.cell (p:=⟨w.heap.size+1,0,none⟩) (by show w.heap.size+1<_;omega)).trans c0
 have d1:w2.cell? ⟨w.heap.size+1,1,none⟩=some (.int .i64 d.n):=(hb2.cell (p:=⟨w.heap.size+1,1,none⟩) (by show w.heap.size+1<_;omega)).trans c1
 have HO2:=hid ho2
 clear ho2 c0 c1 hb2
 go_wp2_with fail
 refine (X5 [d] _ _ (SlP.oneB (E:=DtE) (x:=d) (cs:=[.int .i64 d.dc,.int .i64 d.n]) ⟨rfl,ho⟩ rfl _ rfl (by simp)) HDR.out (by simp)).mono ?_
 rintro e w3 ⟨v3,rfl,ho3,hb3⟩
 obtain⟨A8,n8,rfl⟩:=ho3.shape
 have hs3:=hb3.size
 simp only[World.size_alloc]at hs3
 have hb3':Below w2.heap.size w2 w3:=((Below.refl _ w2).alloc (Nat.le_refl _) _).trans (hb3.mono (by simp))
 have H1:=hid ((HO2.out.grow hb3').sl (by unfold Big;omega))
 have H2:=hid (ho3.sl (by unfold Big;omega))
 clear ho3 hb3 d0 d1
 go_wp2_with fail
 refine (YS (ctxOf u.dots) (ctxOf [d]) _ _ w3 H1.out H2.out HAA.out HAB.out (by omega) (by omega)).mono ?_
 rintro e w4 ⟨v4,rfl,ho4,hb4⟩
 go_wp2_with fail
 go_ret
 exact⟨_,rfl,by rw[HSN.out];exact ho4.mono (by omega),(hB2.trans (hb3'.mono (by omega))).trans (hb4.mono (by omega))⟩
def delC (t:Tr)(s:ByteArray)(d:Dt):List Sp:=if sckB t s d then seenC (kidT t s) d else []
theorem X6 {t:Tr}{s:ByteArray}{d:Dt}(h:sckB t s d=true):chkT t d=true/\keyB s=true:=by
 unfold sckB at h;simpa using h
theorem zQb (t:Tr)(s:ByteArray)(d:Dt)(ve vk:Value)(w:World)(h:t.rd w w.heap.size ve vk)(hs:s.size<=Big)(hN:t.sz<=4000)(hd:d.Ok) :
  Calls Tryz.prog 141 #[.agg #[ve,vk],.string s,.agg #[.int .i64 d.dc,.int .i64 d.n]] w (RetCE w (.mk [] []) (delC t s d) (sckI t s d)):=by
 have HC:Hid (∀ w',Below w.heap.size w w'->t.rd w' w'.heap.size ve vk):=fun w' hb=>Qi hb hb.size _ _ _ h
 obtain⟨A3,n3,A4,n4,rfl,rfl⟩:=Qj h
 have hb0:=(((Below.refl w.heap.size w).alloc (Nat.le_refl _) (.cells #[.slice A3 t.es.length n3,.slice A4 t.ks.length n4] 25)).alloc (by simp) (.cells #[.int .i64 d.dc,.int .i64 d.n] 78)).alloc (by simp;omega) (.cells #[.slice none 0 0,.slice none 0 0,.slice none 0 0] 29)
 clear h
 go_enter Tryz.func141,Tryz.ntmps141
 go_wp2_with fail
 refine (KV t s d _ _ _ (HC.out _ hb0) hs (by omega)).mono ?_
 rintro e w1 ⟨rfl,hb1⟩
 have hs1:=hb1.size
 simp only[World.size_alloc]at hs1
 have hB1:Below w.heap.size w w1:=hb0.trans (hb1.mono (by simp;omega))
 have c0:w1.cell? ⟨w.heap.size,0,none⟩=some (.slice A3 t.es.length n3):=by
  rw[hb1.cell (p:=⟨w.heap.size,0,none⟩) (by simp;omega)]
  rw[World.cell?_alloc_lt _ _ _ (by simp;omega),World.cell?_alloc_lt _ _ _ (by simp)];simp
 have c1:w1.cell? ⟨w.heap.size,1,none⟩=some (.slice A4 t.ks.length n4):=by
  rw[hb1.cell (p:=⟨w.heap.size,1,none⟩) (by simp;omega)]
  rw[World.cell?_alloc_lt _ _ _ (by simp;omega),World.cell?_alloc_lt _ _ _ (by simp)];simp
 have d0:w1.cell? ⟨w.heap.size+1,0,none⟩=some (.int .i64 d.dc):=by rw[hb1.cell (p:=⟨w.heap.size+1,0,none⟩) (by simp),World.cell?_alloc_lt _ _ _ (by simp)];simp
 have d1:w1.cell? ⟨w.heap.size+1,1,none⟩=some (.int .i64 d.n):=by rw[hb1.cell (p:=⟨w.heap.size+1,1,none⟩) (by simp),World.cell?_alloc_lt _ _ _ (by simp)];simp
 have hg:w1.heap[w.heap.size+2]?=some (.cells #[.slice none 0 0,.slice none 0 0,.slice none 0 0] 29 (0,0)):=(hb1.block (w.heap.size+2) (by simp)).trans (Qd (by simp))
 have HG:=hid hg
 have k0:w1.cell? ⟨w.heap.size+2,0,none⟩=some (.slice none 0 0):=Qa (i:=0) hg
 have k1:w1.cell? ⟨w.heap.size+2,1,none⟩=some (.slice none 0 0):=Qa (i:=1) hg
 have k2:w1.cell? ⟨w.heap.size+2,2,none⟩=some (.slice none 0 0):=Qa (i:=2) hg
 have z0:=Qb (i:=0) hg
 have z1:=Qb (i:=1) hg
 have z2:=Qb (i:=2) hg
 clear hg hb1
 cases hc:sckB t s d
 ·have HE:Hid (sckI t s d=1):=by unfold Hid sckI;rw[hc];rfl
  have HD:Hid (delC t s d=[]):=by unfold Hid delC;rw[hc];rfl
  rw[HE.out]
  clear hc
  go_wp2_with fail
  obtain⟨r0,r1,r2,hK,hS⟩:=box3 HG.out (.slice none 0 0) (.slice none 0 0) (.slice none 0 0)
  have hBW:=((hB1.setCell (p:=⟨w.heap.size+2,0,none⟩) (by simp) (.slice none 0 0)).setCell (p:=⟨w.heap.size+2,1,none⟩) (by simp) (.slice none 0 0)).setCell (p:=⟨w.heap.size+2,2,none⟩) (by simp) (.slice none 0 0)
  refine bodyPost_ret (v:=.tuple #[.agg #[.slice none 0 0,.slice none 0 0,.slice none 0 0],.int .i64 1]) (by simp[results,Tryz.results141,go_sem,r0,r1,r2]) rfl ⟨_,_,_,by rw[HE.out],?_,?_,hBW⟩
  ·exact Qp _ _
  ·rw[HD.out];exact SlA.nil
 ·have HE:Hid (sckI t s d=0):=by unfold Hid sckI;rw[hc];rfl
  have HD:Hid (delC t s d=seenC (kidT t s) d):=by unfold Hid delC;rw[hc];rfl
  have HDR:=hid (Zo (X6 hc).1)
  have HTR:=hid (Yh (X6 hc).1)
  rw[HE.out]
  clear hc
  go_wp2_with fail
  refine (J3 t s d _ _ w1 (HC.out _ hB1) hs hN HTR.out HDR.out hd).mono ?_
  rintro e w2 ⟨v2,rfl,ho2,hb2⟩
  obtain⟨A2,c2,rfl⟩:=ho2.shape
  have hs2:=hb2.size
  have hB2:Below w.heap.size w w2:=hB1.trans (hb2.mono (by omega))
  have HG2:=hid ((hb2.block (w.heap.size+2) (by omega)).trans HG.out)
  clear k0 k1 k2 z0 z1 z2 c0 c1 d0 d1
  have k0:w2.cell? ⟨w.heap.size+2,0,none⟩=some (.slice none 0 0):=Qa (i:=0) HG2.out
  have k1:w2.cell? ⟨w.heap.size+2,1,none⟩=some (.slice none 0 0):=Qa (i:=1) HG2.out
  have k2:w2.cell? ⟨w.heap.size+2,2,none⟩=some (.slice none 0 0):=Qa (i:=2) HG2.out
  have z0:=Qb (i:=0) HG2.out
  have z1:=Qb (i:=1) HG2.out
  have z2:=Qb (i:=2) HG2.out
  have HO2:=hid ho2
  have hsc:=Yi (kidT t s) d
  have hkz:=Yz t s
  clear ho2
  go_wp2_with fail
  obtain⟨r0,r1,r2,hK,hS⟩:=box3 HG2.out (.slice none 0 0) (.slice none 0 0) (.slice A2 (seenC (kidT t s) d).length c2)
  have hBW:=((hB2.setCell (p:=⟨w.heap.size+2,0,none⟩) (by simp) (.slice none 0 0)).setCell (p:=⟨w.heap.size+2,1,none⟩) (by simp) (.slice none 0 0)).setCell (p:=⟨w.heap.size+2,2,none⟩) (by simp) (.slice A2 (seenC (kidT t s) d).length c2)
  refine bodyPost_ret (v:=.tuple #[.agg #[.slice none 0 0,.slice none 0 0,.slice A2 (seenC (kidT t s) d).length c2],.int .i64 0]) (by simp[results,Tryz.results141,go_sem,r0,r1,r2]) rfl ⟨_,_,_,by rw[HE.out],Qp _ _,?_,hBW⟩
  rw[HD.out]
  refine (HO2.out.sla (by unfold Big;omega)).up (fun b hb=>hK b (by have:=hb.1;omega)) (fun b hb=>⟨by have:=hb.1;omega,by rw[hS];exact hb.2.1⟩) (fun _ _ _ h=>h)
theorem qZr (s:ByteArray)(w:World):Calls Tryz.prog 174 #[.string s] w fun e w'=>e=.returned (.bool !keyB s)/\Below w.heap.size w w':=by
 go_enter Tryz.func174,Tryz.ntmps174
 go_wp2_with fail
 refine (ZC s _).mono ?_
 rintro e w1 ⟨rfl,hb1⟩
 go_wp2_with fail
 go_ret
 exact⟨rfl,hb1⟩
theorem qQd:∀ (t:Tr) (d:Int),t.right d=true->(t.dep:Int)<=d:=by
 intro t
 induction t using Tr.ind with
 |h es ks ih=>
 intro d h
 rw[Tr.right,Bool.and_eq_true,Bool.and_eq_true,decide_eq_true_eq]at h
 obtain⟨⟨h1,_⟩,h2⟩:=h
 rw[Tr.dep]
 have:∀ (p:Option ByteArray) (ks:List Kd),(∀ k t,(k,t)∈ks->∀ d,t.right d=true->(t.dep:Int)<=d)->Tr.rightL p ks d=true->(Tr.depL ks:Int)<=d-1:=by
  intro p ks
  induction ks generalizing p with
  |nil=>intro _ _;simp[Tr.depL];omega
  |cons x ks ih'=>
   obtain⟨k,t⟩:=x
   intro hi h
   rw[Q0,Bool.and_eq_true,Bool.and_eq_true]at h
   have a:=hi k t (by simp) _ h.1.2
   have b:=ih' (some k) (fun k t hm=>hi k t (by simp[hm])) h.2
   rw[Tr.depL];omega
 have:=this none ks ih h2
 omega
def wrapE (t:Tr)(s:ByteArray):Int:=if !(t.right 5)||!keyB s then 1 else if !empB t.es.length t.ks.length&&decide (5<t.dep+1) then 10 else 0
def wrapT (t:Tr)(s:ByteArray):Tr:=if wrapE t s=0 then (if empB t.es.length t.ks.length then t else .mk [] [(s,t)]) else .mk [] []
def RetTE (w:World)(t:Tr)(k:Int)(e:Ending)(w':World):Prop:=
 ∃ ve vk,e=.returned (.tuple #[.agg #[ve,vk],.int .i64 k])/\t.rda w' (fun b=>w.heap.size<=b/\b<w'.heap.size) ve vk/\Below w.heap.size w w'
theorem qJw {w w6:World}{t:Tr}{s:ByteArray}{Ae Ak:Option Addr}{ne nk:Nat}{x0 x1:Value}(hs:s.size<=Big)(g2:w6.heap[w.heap.size]?=some (.cells #[x0,x1] 25 (0,0)))
  (g4:w6.heap[w.heap.size+1]?=some (.cells #[.slice none 0 0,.slice none 0 0] 25 (0,0))) (hsw:w.heap.size+2<=w6.heap.size) (hrd:t.rda w6 (fun b=>w.heap.size+2<=b/\b<w6.heap.size) (.slice Ae t.es.length ne) (.slice Ak t.ks.length nk)) (hB:Below w.heap.size w w6) :
  ∃ W,W=((((w6.setCell ⟨w.heap.size,0,none⟩ (.slice none 0 0)).setCell ⟨w.heap.size,1,none⟩ (.slice (some ⟨w6.heap.size,0,none⟩) 1 1)).alloc (.cells #[.string s,.slice Ae t.es.length ne,.slice Ak t.ks.length nk] 96)).drew)/\W.heap[w.heap.size]?=some (.cells #[.slice none 0 0,.slice (some ⟨w6.heap.size,0,none⟩) 1 1] 25 (0,0)) /\
   (Tr.mk [] [(s,t)]).rda W (fun b=>w.heap.size+2<=b/\b<W.heap.size) (.slice none 0 0) (.slice (some ⟨w6.heap.size,0,none⟩) 1 1) /\
   W.heap[w.heap.size+1]?=some (.cells #[.slice none 0 0,.slice none 0 0] 25 (0,0))/\Below w.heap.size w W/\w.heap.size+2<=W.heap.size:=by
 have hS:((w6.setCell ⟨w.heap.size,0,none⟩ (.slice none 0 0)).setCell ⟨w.heap.size,1,none⟩ (.slice (some ⟨w6.heap.size,0,none⟩) 1 1)).heap.size=w6.heap.size:=by simp[World.setCell]
 have hK:∀ b,b≠w.heap.size->((w6.setCell ⟨w.heap.size,0,none⟩ (.slice none 0 0)).setCell ⟨w.heap.size,1,none⟩ (.slice (some ⟨w6.heap.size,0,none⟩) 1 1)).heap[b]?=w6.heap[b]?:=fun b hb=>(Below.heap_setCell _ _ _ _ hb).trans (Below.heap_setCell _ _ _ _ hb)
 have hC:=Qe (i:=1) (Qe (i:=0) g2 (.slice none 0 0)) (.slice (some ⟨w6.heap.size,0,none⟩) 1 1)
 have hBW:=(hB.setCell (p:=⟨w.heap.size,0,none⟩) (by simp) (.slice none 0 0)).setCell (p:=⟨w.heap.size,1,none⟩) (by simp) (.slice (some ⟨w6.heap.size,0,none⟩) 1 1)
 refine⟨_,rfl,?_⟩
 generalize ((w6.setCell ⟨w.heap.size,0,none⟩ (.slice none 0 0)).setCell ⟨w.heap.size,1,none⟩ (.slice (some ⟨w6.heap.size,0,none⟩) 1 1))=V at *
 refine⟨(Qg (by omega)).trans (by simpa using hC),?_,(Qg (by omega)).trans ((hK _ (by omega)).trans g4),(hBW.alloc (by omega) _).drew,by show _<=(V.alloc _).heap.size;rw[World.size_alloc];omega⟩
 rw[Zy]
 refine⟨SlA.nil,?_⟩
 have hZ:(V.alloc (.cells #[.string s,.slice Ae t.es.length ne,.slice Ak t.ks.length nk] 96)).drew.heap.size=V.heap.size+1:=World.size_alloc _ _
 have hk2:Keeps (fun b=>w.heap.size+2<=b/\b<w6.heap.size) w6 (V.alloc (.cells #[.string s,.slice Ae t.es.length ne,.slice Ak t.ks.length nk] 96)).drew:=fun b hb=>show (V.alloc (.cells #[.string s,.slice Ae t.es.length ne,.slice Ak t.ks.length nk] 96)).heap[b]?=_ from (Qg (by have:=hb.2;omega)).trans (hK b (by have:=hb.1;omega))
 have hrd2:t.rda (V.alloc (.cells #[.string s,.slice Ae t.es.length ne,.slice Ak t.ks.length nk] 96)).drew (fun b=>w.heap.size+2<=b/\b<(V.alloc (.cells #[.string s,.slice Ae t.es.length ne,.slice Ak t.ks.length nk] 96)).drew.heap.size) (.slice Ae t.es.length ne) (.slice Ak t.ks.length nk):=Qq hk2 (fun b hb=>⟨hb.1,by rw[hZ];have:=hb.2;omega⟩) _ _ _ hrd
 have hnew:(V.alloc (.cells #[.string s,.slice Ae t.es.length ne,.slice Ak t.ks.length nk] 96)).drew.heap[w6.heap.size]?=some (.cells #[.string s,.slice Ae t.es.length ne,.slice Ak t.ks.length nk] 96 (0,0)):=show (V.alloc (.cells #[.string s,.slice Ae t.es.length ne,.slice Ak t.ks.length nk] 96)).heap[w6.heap.size]?=_ from Qd hS.symm
 exact SlA.one (x:=(s,t)) (cs:=[.string s,.slice Ae t.es.length ne,.slice Ak t.ks.length nk]) (e:=96) (z:=(0,0)) ⟨_,_,rfl,hs,hrd2⟩ rfl hnew ⟨hsw,by rw[hZ];omega⟩
theorem YD (t:Tr)(s:ByteArray)(ve vk vp:Value)(w:World)(h:t.rd w w.heap.size ve vk)(hp:SlP w w.heap.size 1 StE vp [s])(hN:t.sz<=900000) :
  Calls Tryz.prog 148 #[.agg #[ve,vk],vp] w (RetTE w (wrapT t s) (wrapE t s)):=by
 have HC:Hid (∀ w',Below w.heap.size w w'->t.rd w' w'.heap.size ve vk):=fun w' hb=>Qi hb hb.size _ _ _ h
 have HP:Hid (∀ w',Below w.heap.size w w'->SlP w' w'.heap.size 1 StE vp [s]):=fun w' hb=>hp.imp hb hb.size fun _ _ _ h=>h
 have hfit:=Kz _ _ _ h
 obtain⟨hel,hkl⟩:t.es.length<=140737488355328/\t.ks.length<=140737488355328:=by obtain⟨es,ks⟩:=t;exact⟨hfit.1,hfit.2.1⟩
 obtain⟨A3,n3,A4,n4,rfl,rfl⟩:=Qj h
 obtain⟨Ap,cp,rfl,p1,p2,p3⟩:=hp
 obtain⟨bp,op,rfl,hbp,hcp⟩:=p3 (by simp)
 obtain⟨cs,⟨rfl,hsz⟩,_,hu⟩:=hcp 0 s rfl
 have hps:w.cell? ⟨bp,op,none⟩=some (.string s):=by simpa using hu 0 _ rfl
 clear hcp hu p3 h hfit
 simp only[List.length_cons,List.length_nil]at *
 have hb0:Below w.heap.size w ((w.alloc (.cells #[.slice A3 t.es.length n3,.slice A4 t.ks.length n4] 25)).alloc (.cells #[.slice none 0 0,.slice none 0 0] 25)):=((Below.refl _ w).alloc (Nat.le_refl _) _).alloc (by simp) _
 have HT:Hid (∀ w,JM 174 #[] (fun s=>!keyB s) w):=fun w=>⟨enters_of Tryz.func174 (by kernel_rfl) rfl,fun x W _ _=>qZr x W⟩
 go_enter Tryz.func148,Tryz.ntmps148
 have HW:Hid (∀ w',Below (w.heap.size+2) ((w.alloc (.cells #[.slice A3 t.es.length n3,.slice A4 t.ks.length n4] 25)).alloc (.cells #[.slice none 0 0,.slice none 0 0] 25)) w'->Below w.heap.size w w'/\w.heap.size+2<=w'.heap.size/\w'.heap[w.heap.size]?=some (.cells #[.slice A3 t.es.length n3,.slice A4 t.ks.length n4] 25 (0,0))/\w'.heap[w.heap.size+1]?=some (.cells #[.slice none 0 0,.slice none 0 0] 25 (0,0))/\w'.cell? ⟨bp,op,none⟩=some (.string s)):=fun w' hb=>by
  have hB:Below w.heap.size w w':=hb0.trans (hb.mono (by omega))
  refine⟨hB,by have:=hb.size;simpa using this,(hb.block _ (by omega)).trans ((Qg (by simp)).trans (Qd rfl)),(hb.block _ (by omega)).trans (Qd (by simp)),(hB.cell hbp).trans hps⟩
 have HPS:=hid hps
 clear hps
 go_wp2_with fail
 refine (QH t _ _ _ (HC.out _ hb0)).mono ?_
 rintro e w1 ⟨rfl,hb1⟩
 have hb1':=hid (hb1.mono (show w.heap.size+2<=_ by simp))
 obtain⟨hB1,hs1,g2,g4,hps⟩:=HW.out _ hb1'.out
 have HG2:=hid g2
 have HG4:=hid g4
 have c0:w1.cell? ⟨w.heap.size,0,none⟩=some (.slice A3 t.es.length n3):=Qa (i:=0) g2
 have c1:w1.cell? ⟨w.heap.size,1,none⟩=some (.slice A4 t.ks.length n4):=Qa (i:=1) g2
 have k0:w1.cell? ⟨w.heap.size+1,0,none⟩=some (.slice none 0 0):=Qa (i:=0) g4
 have k1:w1.cell? ⟨w.heap.size+1,1,none⟩=some (.slice none 0 0):=Qa (i:=1) g4
 have y0:=Qb (i:=0) g2
 have y1:=Qb (i:=1) g2
 have z0:=Qb (i:=0) g4
 have z1:=Qb (i:=1) g4
 clear g2 g4
 clear hb1
 cases hr:t.right 5
 ·have HE:Hid (wrapE t s=1):=by unfold Hid wrapE;rw[hr];rfl
  have HTT:Hid (wrapT t s=.mk [] []):=by unfold Hid wrapT;rw[HE.out];rfl
  clear hr
  go_wp2_with fail
  have hW0:=Qe (i:=1) (Qe (i:=0) HG4.out (.slice none 0 0)) (.slice none 0 0)
  have r0:=(Qa (i:=0) hW0).trans (show _=some (.slice none 0 0) by simp)
  have r1:=(Qa (i:=1) hW0).trans (show _=some (.slice none 0 0) by simp)
  refine bodyPost_ret (v:=.tuple #[.agg #[.slice none 0 0,.slice none 0 0],.int .i64 1]) (by simp[results,Tryz.results148,go_sem,r0,r1]) rfl ⟨_,_,by rw[HE.out],by rw[HTT.out];exact Qp _ _,(hB1.setCell (by simp) _).setCell (by simp) _⟩
 have hdep:=qQd t 5 hr
 go_wp2_with fail
 refine (X0 (fun s=>!keyB s) _ _ [s] _ w1 (HP.out _ hB1) (HT.out w1)).mono ?_
 rintro e w2 ⟨rfl,hb2⟩
 rw[show List.any [s] (fun s=>!keyB s) = !keyB s by simp]
 clear c0 c1 k0 k1 y0 y1 z0 z1 hps HG2 HG4
 have hb2':=hid (hb1'.out.trans (hb2.mono hs1))
 obtain⟨hB2,hs2,g2,g4,hps⟩:=HW.out _ hb2'.out
 have HG2:=hid g2
 have HG4:=hid g4
 have c0:w2.cell? ⟨w.heap.size,0,none⟩=some (.slice A3 t.es.length n3):=Qa (i:=0) g2
 have c1:w2.cell? ⟨w.heap.size,1,none⟩=some (.slice A4 t.ks.length n4):=Qa (i:=1) g2
 have k0:w2.cell? ⟨w.heap.size+1,0,none⟩=some (.slice none 0 0):=Qa (i:=0) g4
 have k1:w2.cell? ⟨w.heap.size+1,1,none⟩=some (.slice none 0 0):=Qa (i:=1) g4
 have y0:=Qb (i:=0) g2
 have y1:=Qb (i:=1) g2
 have z0:=Qb (i:=0) g4
 have z1:=Qb (i:=1) g4
 clear g2 g4
 clear hb2
 cases hk:keyB s
 ·have HE:Hid (wrapE t s=1):=by unfold Hid wrapE;rw[hr,hk];rfl
  have HTT:Hid (wrapT t s=.mk [] []):=by unfold Hid wrapT;rw[HE.out];rfl
  clear hr hk
  go_wp2_with fail
  have hW0:=Qe (i:=1) (Qe (i:=0) HG4.out (.slice none 0 0)) (.slice none 0 0)
  have r0:=(Qa (i:=0) hW0).trans (show _=some (.slice none 0 0) by simp)
  have r1:=(Qa (i:=1) hW0).trans (show _=some (.slice none 0 0) by simp)
  refine bodyPost_ret (v:=.tuple #[.agg #[.slice none 0 0,.slice none 0 0],.int .i64 1]) (by simp[results,Tryz.results148,go_sem,r0,r1]) rfl ⟨_,_,by rw[HE.out],by rw[HTT.out];exact Qp _ _,(hB2.setCell (by simp) _).setCell (by simp) _⟩
 go_wp2_with fail
 refine (QF t.es.length t.ks.length A3 A4 n3 n4 w2).mono ?_
 rintro e w3 ⟨rfl,hb3⟩
 clear c0 c1 k0 k1 y0 y1 z0 z1 hps HG2 HG4
 have hb3':=hid (hb2'.out.trans (hb3.mono hs2))
 obtain⟨hB3,hs3,g2,g4,hps⟩:=HW.out _ hb3'.out
 have HG2:=hid g2
 have HG4:=hid g4
 have c0:w3.cell? ⟨w.heap.size,0,none⟩=some (.slice A3 t.es.length n3):=Qa (i:=0) g2
 have c1:w3.cell? ⟨w.heap.size,1,none⟩=some (.slice A4 t.ks.length n4):=Qa (i:=1) g2
 have k0:w3.cell? ⟨w.heap.size+1,0,none⟩=some (.slice none 0 0):=Qa (i:=0) g4
 have k1:w3.cell? ⟨w.heap.size+1,1,none⟩=some (.slice none 0 0):=Qa (i:=1) g4
 have y0:=Qb (i:=0) g2
 have y1:=Qb (i:=1) g2
 have z0:=Qb (i:=0) g4
 have z1:=Qb (i:=1) g4
 clear g2 g4
 clear hb3
 cases hm:empB t.es.length t.ks.length
 ·go_wp2_with fail
  refine (qVg t w3 _ _ (HC.out _ hB3) (by omega)).mono ?_
  rintro e w4 ⟨rfl,hb4⟩
  clear c0 c1 k0 k1 y0 y1 z0 z1 hps HG2 HG4
  have hb4':=hid (hb3'.out.trans (hb4.mono hs3))
  obtain⟨hB4,hs4,g2,g4,hps⟩:=HW.out _ hb4'.out
  have HG2:=hid g2
  have HG4:=hid g4
  have c0:w4.cell? ⟨w.heap.size,0,none⟩=some (.slice A3 t.es.length n3):=Qa (i:=0) g2
  have c1:w4.cell? ⟨w.heap.size,1,none⟩=some (.slice A4 t.ks.length n4):=Qa (i:=1) g2
  have k0:w4.cell? ⟨w.heap.size+1,0,none⟩=some (.slice none 0 0):=Qa (i:=0) g4
  have k1:w4.cell? ⟨w.heap.size+1,1,none⟩=some (.slice none 0 0):=Qa (i:=1) g4
  have y0:=Qb (i:=0) g2
  have y1:=Qb (i:=1) g2
  have z0:=Qb (i:=0) g4
  have z1:=Qb (i:=1) g4
  clear g2 g4
  clear hb4
  cases hd:decide (5<t.dep+1)
  ·have HE:Hid (wrapE t s=0):=by unfold Hid wrapE;rw[hr,hk,hm,hd];rfl
   have HTT:Hid (wrapT t s=.mk [] [(s,t)]):=by unfold Hid wrapT;rw[HE.out,hm];rfl
   have hd1:decide ((5:Int)<(t.dep:Int)+1)=false:=by simp at hd ⊢;omega
   clear hr hk hd
   go_wp2_with fail
   refine (YQ t w4 _ _ (HC.out _ hB4) hN).mono ?_
   rintro e w5 ⟨vc,vd,rfl,hrd,hb5⟩
   obtain⟨A5,n5,A6,n6,rfl,rfl⟩:=Qk hrd
   clear c0 c1 k0 k1 y0 y1 z0 z1 hps HG2 HG4
   have hb5':=hid (hb4'.out.trans (hb5.mono hs4))
   obtain⟨hB5,hs5,g2,g4,hps⟩:=HW.out _ hb5'.out
   have HG2:=hid g2
   have HG4:=hid g4
   have c0:w5.cell? ⟨w.heap.size,0,none⟩=some (.slice A3 t.es.length n3):=Qa (i:=0) g2
   have c1:w5.cell? ⟨w.heap.size,1,none⟩=some (.slice A4 t.ks.length n4):=Qa (i:=1) g2
   have k0:w5.cell? ⟨w.heap.size+1,0,none⟩=some (.slice none 0 0):=Qa (i:=0) g4
   have k1:w5.cell? ⟨w.heap.size+1,1,none⟩=some (.slice none 0 0):=Qa (i:=1) g4
   have y0:=Qb (i:=0) g2
   have y1:=Qb (i:=1) g2
   have z0:=Qb (i:=0) g4
   have z1:=Qb (i:=1) g4
   clear g2 g4
   clear hb5
   have HRD:Hid (t.rda w5 (fun b=>w.heap.size+2<=b/\b<w5.heap.size) (.slice A5 t.es.length n5) (.slice A6 t.ks.length n6)):=Qq (fun _ _=>rfl) (fun b hb=>⟨by have:=hb.1;omega,hb.2⟩) _ _ _ hrd
   clear hrd
   go_wp2_with fail
   obtain⟨r0,r1,r2,r3⟩:=ZE HG2.out HRD.out (fun b hb=>by have:=hb.1;omega)
   have r4:((w5.setCell ⟨w.heap.size,0,none⟩ (.slice A5 t.es.length n5)).setCell ⟨w.heap.size,1,none⟩ (.slice A6 t.ks.length n6)).heap[w.heap.size]?=some (.cells #[.slice A5 t.es.length n5,.slice A6 t.ks.length n6] 25 (0,0)):=by simpa using Qe (i:=1) (Qe (i:=0) HG2.out (.slice A5 t.es.length n5)) (.slice A6 t.ks.length n6)
   have r5:((w5.setCell ⟨w.heap.size,0,none⟩ (.slice A5 t.es.length n5)).setCell ⟨w.heap.size,1,none⟩ (.slice A6 t.ks.length n6)).heap[w.heap.size+1]?=some (.cells #[.slice none 0 0,.slice none 0 0] 25 (0,0)):=(Below.heap_setCell _ _ _ _ (by simp)).trans ((Below.heap_setCell _ _ _ _ (by simp)).trans HG4.out)
   have r6:Below w.heap.size w ((w5.setCell ⟨w.heap.size,0,none⟩ (.slice A5 t.es.length n5)).setCell ⟨w.heap.size,1,none⟩ (.slice A6 t.ks.length n6)):=(hB5.setCell (by simp) _).setCell (by simp) _
   clear c0 c1 k0 k1 y0 y1 z0 z1 hps HG2 HG4
   generalize ((w5.setCell ⟨w.heap.size,0,none⟩ (.slice A5 t.es.length n5)).setCell ⟨w.heap.size,1,none⟩ (.slice A6 t.ks.length n6))=W5 at *
   go_loopw [6] (fun i wr=>∃ T Ae ne Ak nk,wr.heap[w.heap.size]?=some (.cells #[.slice Ae T.es.length ne,.slice Ak T.ks.length nk] 25 (0,0))/\T.rda wr (fun b=>w.heap.size+2<=b/\b<wr.heap.size) (.slice Ae T.es.length ne) (.slice Ak T.ks.length nk) /\
     wr.heap[w.heap.size+1]?=some (.cells #[.slice none 0 0,.slice none 0 0] 25 (0,0))/\Below w.heap.size w wr/\w.heap.size+2<=wr.heap.size/\((i=.int .i64 0/\T=t)∨(i=.int .i64 (-1)/\Hid (empB t.es.length t.ks.length=false)/\T=.mk [] [(s,t)]))) (fun i _=>(intOf i+1).toNat)
   case atStart=>exact⟨t,A5,n5,A6,n6,r4,by rw[r3];exact r2,r5,r6,by omega,.inl ⟨rfl,rfl⟩⟩
   case round=>
    obtain⟨T,Ae,ne,Ak,nk,hg2,hrd,hg4,hB,hsw,hT⟩:=hrel
    clear r0 r1 r2 r3 r4 r5 r6
    have c0:wr.cell? ⟨w.heap.size,0,none⟩=some (.slice Ae T.es.length ne):=Qa (i:=0) hg2
    have c1:wr.cell? ⟨w.heap.size,1,none⟩=some (.slice Ak T.ks.length nk):=Qa (i:=1) hg2
    have k0:wr.cell? ⟨w.heap.size+1,0,none⟩=some (.slice none 0 0):=Qa (i:=0) hg4
    have k1:wr.cell? ⟨w.heap.size+1,1,none⟩=some (.slice none 0 0):=Qa (i:=1) hg4
    have y0:=Qb (i:=0) hg2
    have y1:=Qb (i:=1) hg2
    have z0:=Qb (i:=0) hg4
    have z1:=Qb (i:=1) hg4
    have HG2:=hid hg2
    have HG4:=hid hg4
    have HRDW:=hid hrd
    clear hg2 hg4 hrd
    rcases hT with⟨rfl,hTt⟩|⟨rfl,hTt⟩
    ·have hTt':=hTt.symm
     subst hTt'
     go_wp2_with fail
     refine (QF t.es.length t.ks.length Ae Ak ne nk wr).mono ?_
     rw[hm]
     rintro e w6 ⟨rfl,hb6⟩
     have hs6:=hb6.size
     have hB6:Below w.heap.size w w6:=hB.trans (hb6.mono (by omega))
     have g2:=(hb6.block _ (by omega)).trans HG2.out
     have g4:=(hb6.block _ (by omega)).trans HG4.out
     clear c0 c1 k0 k1 y0 y1 z0 z1
     have c0:w6.cell? ⟨w.heap.size,0,none⟩=some (.slice Ae t.es.length ne):=Qa (i:=0) g2
     have c1:w6.cell? ⟨w.heap.size,1,none⟩=some (.slice Ak t.ks.length nk):=Qa (i:=1) g2
     have y0:=Qb (i:=0) g2
     have y1:=Qb (i:=1) g2
     have hps6:w6.cell? ⟨bp,op,none⟩=some (.string s):=(hB6.cell hbp).trans HPS.out
     have HG2:=hid g2
     have HG4:=hid g4
     have hlt6:w.heap.size<w6.heap.size:=by omega
     have hne6:w.heap.size≠w6.heap.size:=by omega
     have HM:=hid hm
     clear g2 g4 hm
     go_upto_region 9 with (fail)
     go_region_with (fail)
     all_goals (
      obtain⟨W,hW,a1,a2,a3,a4,a5⟩:=qJw (s:=s) hsz HG2.out HG4.out (by omega) (Qq (fun b hb=>hb6.block b hb.2) (fun b hb=>⟨hb.1,by have:=hb.2;omega⟩) _ _ _ HRDW.out) hB6
      rw[←hW]
      clear hW c0 c1 y0 y1 hps6
      go_wp2_with fail
      go_roundw
      case rel=>exact⟨.mk [] [(s,t)],none,0,some ⟨w6.heap.size,0,none⟩,1,a1,a2,a3,a4,a5,.inr ⟨by go_num,HM,rfl⟩⟩
      case measure=>simp[intOf])
    ·obtain⟨_,hTt⟩:=hTt
     subst hTt
     go_wp2_with fail
     obtain⟨r0,r1,r2,r3⟩:=ZE HG4.out HRDW.out (fun b hb=>by have:=hb.1;omega)
     have hBW:Below w.heap.size w ((wr.setCell ⟨w.heap.size+1,0,none⟩ (.slice Ae (Tr.mk [] [(s,t)]).es.length ne)).setCell ⟨w.heap.size+1,1,none⟩ (.slice Ak (Tr.mk [] [(s,t)]).ks.length nk)):=(hB.setCell (by simp) _).setCell (by simp) _
     generalize ((wr.setCell ⟨w.heap.size+1,0,none⟩ (.slice Ae (Tr.mk [] [(s,t)]).es.length ne)).setCell ⟨w.heap.size+1,1,none⟩ (.slice Ak (Tr.mk [] [(s,t)]).ks.length nk))=W at *
     refine bodyPost_ret (v:=.tuple #[.agg #[.slice Ae (Tr.mk [] [(s,t)]).es.length ne,.slice Ak (Tr.mk [] [(s,t)]).ks.length nk],.int .i64 0]) (by simp[results,Tryz.results148,go_sem,r0,r1]) rfl ⟨_,_,by rw[HE.out],by rw[HTT.out];exact Qq (fun _ _=>rfl) (fun b hb=>⟨by have:=hb.1;omega,by have:=hb.2;omega⟩) _ _ _ r2,hBW⟩
  ·have HE:Hid (wrapE t s=10):=by unfold Hid wrapE;rw[hr,hk,hm,hd];rfl
   have HTT:Hid (wrapT t s=.mk [] []):=by unfold Hid wrapT;rw[HE.out];rfl
   have hd1:decide ((5:Int)<(t.dep:Int)+1)=true:=by simp at hd ⊢;omega
   clear hr hk hm hd
   go_wp2_with fail
   have hW0:=Qe (i:=1) (Qe (i:=0) HG4.out (.slice none 0 0)) (.slice none 0 0)
   have r0:=(Qa (i:=0) hW0).trans (show _=some (.slice none 0 0) by simp)
   have r1:=(Qa (i:=1) hW0).trans (show _=some (.slice none 0 0) by simp)
   refine bodyPost_ret (v:=.tuple #[.agg #[.slice none 0 0,.slice none 0 0],.int .i64 10]) (by simp[results,Tryz.results148,go_sem,r0,r1]) rfl ⟨_,_,by rw[HE.out],by rw[HTT.out];exact Qp _ _,(hB4.setCell (by simp) _).setCell (by simp) _⟩
 ·have HE:Hid (wrapE t s=0):=by unfold Hid wrapE;rw[hr,hk,hm];rfl
  have HTT:Hid (wrapT t s=t):=by unfold Hid wrapT;rw[HE.out,hm];rfl
  clear hr hk
  go_wp2_with fail
  refine (YQ t w3 _ _ (HC.out _ hB3) hN).mono ?_
  rintro e w5 ⟨vc,vd,rfl,hrd,hb5⟩
  obtain⟨A5,n5,A6,n6,rfl,rfl⟩:=Qk hrd
  clear c0 c1 k0 k1 y0 y1 z0 z1 hps HG2 HG4
  have hb5':=hid (hb3'.out.trans (hb5.mono hs3))
  obtain⟨hB5,hs5,g2,g4,hps⟩:=HW.out _ hb5'.out
  have HG2:=hid g2
  have HG4:=hid g4
  have c0:w5.cell? ⟨w.heap.size,0,none⟩=some (.slice A3 t.es.length n3):=Qa (i:=0) g2
  have c1:w5.cell? ⟨w.heap.size,1,none⟩=some (.slice A4 t.ks.length n4):=Qa (i:=1) g2
  have k0:w5.cell? ⟨w.heap.size+1,0,none⟩=some (.slice none 0 0):=Qa (i:=0) g4
  have k1:w5.cell? ⟨w.heap.size+1,1,none⟩=some (.slice none 0 0):=Qa (i:=1) g4
  have y0:=Qb (i:=0) g2
  have y1:=Qb (i:=1) g2
  have z0:=Qb (i:=0) g4
  have z1:=Qb (i:=1) g4
  clear g2 g4
  clear hb5
  have HRD:Hid (t.rda w5 (fun b=>w.heap.size+2<=b/\b<w5.heap.size) (.slice A5 t.es.length n5) (.slice A6 t.ks.length n6)):=Qq (fun _ _=>rfl) (fun b hb=>⟨by have:=hb.1;omega,hb.2⟩) _ _ _ hrd
  clear hrd
  go_wp2_with fail
  obtain⟨r0,r1,r2,r3⟩:=ZE HG2.out HRD.out (fun b hb=>by have:=hb.1;omega)
  have r4:((w5.setCell ⟨w.heap.size,0,none⟩ (.slice A5 t.es.length n5)).setCell ⟨w.heap.size,1,none⟩ (.slice A6 t.ks.length n6)).heap[w.heap.size]?=some (.cells #[.slice A5 t.es.length n5,.slice A6 t.ks.length n6] 25 (0,0)):=by simpa using Qe (i:=1) (Qe (i:=0) HG2.out (.slice A5 t.es.length n5)) (.slice A6 t.ks.length n6)
  have r5:((w5.setCell ⟨w.heap.size,0,none⟩ (.slice A5 t.es.length n5)).setCell ⟨w.heap.size,1,none⟩ (.slice A6 t.ks.length n6)).heap[w.heap.size+1]?=some (.cells #[.slice none 0 0,.slice none 0 0] 25 (0,0)):=(Below.heap_setCell _ _ _ _ (by simp)).trans ((Below.heap_setCell _ _ _ _ (by simp)).trans HG4.out)
  have r6:Below w.heap.size w ((w5.setCell ⟨w.heap.size,0,none⟩ (.slice A5 t.es.length n5)).setCell ⟨w.heap.size,1,none⟩ (.slice A6 t.ks.length n6)):=(hB5.setCell (by simp) _).setCell (by simp) _
  clear c0 c1 k0 k1 y0 y1 z0 z1 hps HG2 HG4
  generalize ((w5.setCell ⟨w.heap.size,0,none⟩ (.slice A5 t.es.length n5)).setCell ⟨w.heap.size,1,none⟩ (.slice A6 t.ks.length n6))=W5 at *
  go_loopw [6] (fun i wr=>∃ T Ae ne Ak nk,wr.heap[w.heap.size]?=some (.cells #[.slice Ae T.es.length ne,.slice Ak T.ks.length nk] 25 (0,0))/\T.rda wr (fun b=>w.heap.size+2<=b/\b<wr.heap.size) (.slice Ae T.es.length ne) (.slice Ak T.ks.length nk) /\
    wr.heap[w.heap.size+1]?=some (.cells #[.slice none 0 0,.slice none 0 0] 25 (0,0))/\Below w.heap.size w wr/\w.heap.size+2<=wr.heap.size/\((i=.int .i64 0/\T=t)∨(i=.int .i64 (-1)/\Hid (empB t.es.length t.ks.length=false)/\T=.mk [] [(s,t)]))) (fun i _=>(intOf i+1).toNat)
  case atStart=>exact⟨t,A5,n5,A6,n6,r4,by rw[r3];exact r2,r5,r6,by omega,.inl ⟨rfl,rfl⟩⟩
  case round=>
   obtain⟨T,Ae,ne,Ak,nk,hg2,hrd,hg4,hB,hsw,hT⟩:=hrel
   clear r0 r1 r2 r3 r4 r5 r6
   have c0:wr.cell? ⟨w.heap.size,0,none⟩=some (.slice Ae T.es.length ne):=Qa (i:=0) hg2
   have c1:wr.cell? ⟨w.heap.size,1,none⟩=some (.slice Ak T.ks.length nk):=Qa (i:=1) hg2
   have k0:wr.cell? ⟨w.heap.size+1,0,none⟩=some (.slice none 0 0):=Qa (i:=0) hg4
   have k1:wr.cell? ⟨w.heap.size+1,1,none⟩=some (.slice none 0 0):=Qa (i:=1) hg4
   have y0:=Qb (i:=0) hg2
   have y1:=Qb (i:=1) hg2
   have z0:=Qb (i:=0) hg4
   have z1:=Qb (i:=1) hg4
   have HG2:=hid hg2
   have HG4:=hid hg4
   have HRDW:=hid hrd
   clear hg2 hg4 hrd
   rcases hT with⟨rfl,hTt⟩|⟨rfl,hTt⟩
   ·have hTt':=hTt.symm
    subst hTt'
    go_wp2_with fail
    refine (QF t.es.length t.ks.length Ae Ak ne nk wr).mono ?_
    rw[hm]
    rintro e w6 ⟨rfl,hb6⟩
    have hs6:=hb6.size
    have hB6:Below w.heap.size w w6:=hB.trans (hb6.mono (by omega))
    have g2:=(hb6.block _ (by omega)).trans HG2.out
    have g4:=(hb6.block _ (by omega)).trans HG4.out
    clear c0 c1 k0 k1 y0 y1 z0 z1
    have c0:w6.cell? ⟨w.heap.size,0,none⟩=some (.slice Ae t.es.length ne):=Qa (i:=0) g2
    have c1:w6.cell? ⟨w.heap.size,1,none⟩=some (.slice Ak t.ks.length nk):=Qa (i:=1) g2
    have k0:w6.cell? ⟨w.heap.size+1,0,none⟩=some (.slice none 0 0):=Qa (i:=0) g4
    have k1:w6.cell? ⟨w.heap.size+1,1,none⟩=some (.slice none 0 0):=Qa (i:=1) g4
    have z0:=Qb (i:=0) g4
    have z1:=Qb (i:=1) g4
    have HG4:=hid g4
    clear g2 g4 hm
    go_wp2_with fail
    obtain⟨r0,r1,r2,r3⟩:=ZE HG4.out (Qq (fun b hb=>hb6.block b hb.2) (fun b hb=>(⟨hb.1,by have:=hb.2;omega⟩:w.heap.size+2<=b/\b<w6.heap.size)) _ _ _ HRDW.out) (fun b hb=>by have:=hb.1;omega)
    have hBW:Below w.heap.size w ((w6.setCell ⟨w.heap.size+1,0,none⟩ (.slice Ae t.es.length ne)).setCell ⟨w.heap.size+1,1,none⟩ (.slice Ak t.ks.length nk)):=(hB6.setCell (by simp) _).setCell (by simp) _
    generalize ((w6.setCell ⟨w.heap.size+1,0,none⟩ (.slice Ae t.es.length ne)).setCell ⟨w.heap.size+1,1,none⟩ (.slice Ak t.ks.length nk))=W at *
    refine bodyPost_ret (v:=.tuple #[.agg #[.slice Ae t.es.length ne,.slice Ak t.ks.length nk],.int .i64 0]) (by simp[results,Tryz.results148,go_sem,r0,r1]) rfl ⟨_,_,by rw[HE.out],by rw[HTT.out];exact Qq (fun _ _=>rfl) (fun b hb=>⟨by have:=hb.1;omega,by have:=hb.2;omega⟩) _ _ _ r2,hBW⟩
   ·exact absurd (hTt.1.symm.trans hm) (by simp)
end Go.Proofs.YtbcoelggdikipaaGreat
