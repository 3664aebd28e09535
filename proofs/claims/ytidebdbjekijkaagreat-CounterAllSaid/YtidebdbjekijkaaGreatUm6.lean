/- What the laws need. No condition but those that each lemma states. -/
import Derived.Deep.CutBlock
import Derived.Test.YtidebdbjekijkaaGreatUm5
import Derived.Test.YtidebdbjekijkaaGreatUm3
import Derived.Test.YtidebdbjekijkaaGreatUm2
import Derived.Test.YtidebdbjekijkaaGreatUm4
set_option maxRecDepth 100000
set_option maxHeartbeats 8000000
set_option linter.unusedSimpArgs false
namespace Go.Proofs.YtidebdbjekijkaaGreat
open Go.RowKit
def J9 (g:Nat)(how:Int):Prop:=
 (∀ args W,(callFunc g args).run Tryz.prog W=.ok (.enter g args) W) /\
 ∀ (a b:List (Int×Int)) (va vb:Value) (W:World),SlP W W.heap.size 2 RuE va a->SlP W W.heap.size 2 RuE vb b->runsR none a=true->runsR none b=true->a.length<=100000->b.length<=100000 ->
  Calls Tryz.prog g #[va,vb] W (RetO W 181 2 (fun _=>RuE) (byL a b how))
def ByA (a b:List Sp)(how:Int)(vs us:Nat->Value)(w1 w2:World)(k:Nat)(wr:World):Prop:=
 ∃ ps:Nat->Value,wr.heap[w1.heap.size]?=some (.cells #[ps 0,ps 1,ps 2,ps 3] 150 (0,0))/\wr.heap[w2.heap.size]?=some (.cells #[us 0,us 1,us 2,us 3] 150 (0,0)) /\
  (∀ j,j<k->OwnP wr (w2.heap.size+1) 181 2 RuE (ps j) (byL (partL a (j:Int)) (partL b (j:Int)) how))/\(∀ j,k<=j->ps j=vs j)/\(∀ blk,w1.heap.size<blk->blk<w2.heap.size->wr.heap[blk]?=w2.heap[blk]?)/\Below w1.heap.size w1 wr
theorem qQu (a b:List Sp)(how:Int)(g:Nat)(hf:J9 g how)(va vb:Value)(w:World)(ha:SlP w w.heap.size 3 SpE va a)(hb:SlP w w.heap.size 3 SpE vb b)(hra:Ql a=true)(hrb:Ql b=true)(hN:a.length<=20000)(hN':b.length<=20000) :
  Calls Tryz.prog 128 #[va,vb,.func (.func g) #[] #[]] w (RetO w 45 3 (fun _=>SpE) (ctxBy a b how)):=by
 obtain⟨eg,hf⟩:=hf
 have HA:=hid ha
 have HB:=hid hb
 obtain⟨A1,c1,rfl,_⟩:=ha
 obtain⟨A2,c2,rfl,_⟩:=hb
 go_enter Tryz.func128,Tryz.ntmps128
 go_wp2_with fail
 refine (Z1 a _ w HA.out (by omega)).mono ?_
 rintro e w1 ⟨vs,rfl,hsl,hb1⟩
 have hs1:=hb1.size
 rw[hra]
 simp only[hra,if_true]at hsl
 obtain⟨B0,m0,g0,_⟩:=hsl 0 (by omega)
 obtain⟨B1,m1,g1,_⟩:=hsl 1 (by omega)
 obtain⟨B2,m2,g2,_⟩:=hsl 2 (by omega)
 obtain⟨B3,m3,g3,_⟩:=hsl 3 (by omega)
 have HVS:=hid (fun i (hi:i<4)=>(hsl i hi).slp (fun b hb=>hb.2) (Below.refl _ w1))
 have G0:=hid g0
 have G1:=hid g1
 have G2:=hid g2
 have G3:=hid g3
 simp only[g0,g1,g2,g3]
 clear hsl g0 g1 g2 g3
 go_wp2_with fail
 refine (Z1 b _ _ (HB.out.imp (hb1.alloc hs1 _) (by simp;omega) fun _ _ _ h=>h) (by omega)).mono ?_
 rintro e w2 ⟨us,rfl,hsl,hb2⟩
 have hs2:=hb2.size
 simp only[World.size_alloc]at hs2
 rw[hrb]
 simp only[hrb,if_true]at hsl
 obtain⟨D0,n0,k0,_⟩:=hsl 0 (by omega)
 obtain⟨D1,n1,k1,_⟩:=hsl 1 (by omega)
 obtain⟨D2,n2,k2,_⟩:=hsl 2 (by omega)
 obtain⟨D3,n3,k3,_⟩:=hsl 3 (by omega)
 have HUS:=hid hsl
 have K0:=hid k0
 have K1:=hid k1
 have K2:=hid k2
 have K3:=hid k3
 simp only[k0,k1,k2,k3]
 clear hsl k0 k1 k2 k3
 have hp2:=hid ((hb2.block w1.heap.size (by simp)).trans (Qh rfl))
 have hB2:Below w1.heap.size w1 w2:=((Below.refl _ w1).alloc (Nat.le_refl _) _).trans (hb2.mono (by simp))
 go_wp2_with fail
 go_loopw [28] (fun i wr=>∃ k:Nat,k<=4/\i=.int .i64 k/\ByA a b how vs us w1 w2 k wr) (fun i _=>4-(intOf i).toNat)
 case atStart=>
  refine⟨0,by omega,rfl,vs,?_,?_,fun j hj=>absurd hj (Nat.not_lt_zero _),fun _ _=>rfl,fun blk _ hb=>Qi hb,hB2.alloc (by omega) _⟩
  ·rw[Qi (by omega),G0.out,G1.out,G2.out,G3.out];exact hp2.out
  ·rw[Qh rfl,K0.out,K1.out,K2.out,K3.out];rfl
 case round=>
  obtain⟨k,hk,rfl,ps,hpa,hqa,hpo,hpv,hkp,hbr⟩:=hrel
  have hsz:=hbr.size
  have hp3:w1.heap.size<wr.heap.size:=(Array.getElem?_eq_some_iff.1 hpa).1
  have hq3:w2.heap.size<wr.heap.size:=(Array.getElem?_eq_some_iff.1 hqa).1
  by_cases hk4:k<4
  ·have hki:(k:Int)<4:=by omega
   have hla:=QA a k
   have hlb:=QA b k
   have hq2:w2.heap.size+1<=wr.heap.size:=by omega
   have HSA:Hid (SlP wr.drew wr.drew.heap.size 2 RuE (vs k) (partL a k)):=(HVS.out k hk4).imp hbr.drew hsz fun _ _ _ h=>h
   have HSB:Hid (SlP wr.drew wr.drew.heap.size 2 RuE (us k) (partL b k)):=YV.2 ((HUS.out k hk4).up (w':=wr.drew) (fun blk hb=>hkp blk (by have:=hb.1;simp only[World.size_alloc]at this;omega) hb.2) (fun blk hb=>by have:=hb.2;show blk<wr.heap.size;omega) (fun _ _ _ h=>h))
   have hcall:=hf (partL a k) (partL b k) (vs k) (us k) wr.drew HSA.out HSB.out (Qs hra hk4) (Qs hrb hk4) (by omega) (by omega)
   have hpc:wr.cell? ⟨w1.heap.size,k,none⟩=some (vs k):=by rw[Qa hpa,Q1 ps hk4,hpv k (Nat.le_refl _)]
   have hqc:wr.cell? ⟨w2.heap.size,k,none⟩=some (us k):=(Qa hqa).trans (Q1 us hk4)
   have HPA:=hid hpa
   have HQA:=hid hqa
   have HPO:=hid hpo
   have HPV:=hid hpv
   have HKP:=hid hkp
   have HCALL:=hid hcall
   clear hpa hqa hpo hpv hkp hf hcall
   go_wp2_with fail
   refine Q7 (S:=fun w'=>w'.cell? ⟨w1.heap.size,k,none⟩=some (vs k)/\w'.cell? ⟨w2.heap.size,k,none⟩=some (us k)) 10 (by kernel_rfl) (by kernel_rfl) ?_
   simp only[List.take_succ_cons,List.take_zero,List.drop_succ_cons,List.drop_zero]
   have hHeld:(fun w':World=>w'.cell? ⟨w1.heap.size,k,none⟩=some (vs k)/\w'.cell? ⟨w2.heap.size,k,none⟩=some (us k)) wr.drew:=by go_keep
   refine wpAnyH_take (i:=0) (oi:=_) (v:=?v0) rfl (by kernel_rfl) (by kernel_rfl) (by kernel_rfl) (fun _ _ _ h=>h) (Or.inl ⟨by rfl,?h0⟩) (by assumption) ?_
   case h0=>(intro w hSw;(try dsimp only at hSw);go_simp;(try with_reducible rfl))
   simp only[Act.put,List.setIfInBounds_toArray]
   refine wpAnyH_take (i:=1) (oi:=_) (v:=?v1) rfl (by kernel_rfl) (by kernel_rfl) (by kernel_rfl) (fun _ _ _ h=>h) (Or.inl ⟨by rfl,?h1⟩) (by assumption) ?_
   case h1=>(intro w hSw;(try dsimp only at hSw);go_simp;(try with_reducible rfl))
   simp only[Act.put,List.setIfInBounds_toArray]
   refine wpAnyH_take (i:=2) (oi:=_) (v:=?v2) rfl (by kernel_rfl) (by kernel_rfl) (by kernel_rfl) (fun _ _ _ h=>h) (Or.inl ⟨by rfl,?h2⟩) (by assumption) ?_
   case h2=>(intro w hSw;(try dsimp only at hSw);go_simp;(try with_reducible rfl))
   simp only[Act.put,List.setIfInBounds_toArray]
   refine wpAnyH_take (i:=3) (oi:=_) (v:=?v3) rfl (by kernel_rfl) (by kernel_rfl) (by kernel_rfl) (fun _ _ _ h=>h) (Or.inl ⟨by rfl,?h3⟩) (by assumption) ?_
   case h3=>(intro w hSw;(try dsimp only at hSw);go_simp;(try with_reducible rfl))
   simp only[Act.put,List.setIfInBounds_toArray]
   refine wpAnyH_take (i:=4) (oi:=_) (v:=?v4) rfl (by kernel_rfl) (by kernel_rfl) (by kernel_rfl) (fun _ _ _ h=>h) (Or.inl ⟨by rfl,?h4⟩) (by assumption) ?_
   case h4=>(intro w hSw;(try dsimp only at hSw);go_simp;(try with_reducible rfl))
   simp only[Act.put,List.setIfInBounds_toArray]
   refine wpAnyH_take (i:=5) (oi:=_) (v:=?v5) rfl (by kernel_rfl) (by kernel_rfl) (by kernel_rfl) (fun _ _ _ h=>h) (Or.inl ⟨by rfl,?h5⟩) (by assumption) ?_
   case h5=>(intro w hSw;(try dsimp only at hSw);go_simp;(try with_reducible rfl))
   simp only[Act.put,List.setIfInBounds_toArray]
   refine wpAnyH_take (i:=6) (oi:=_) (v:=?v6) rfl (by kernel_rfl) (by kernel_rfl) (by kernel_rfl) (fun _ _ _ h=>h) (Or.inl ⟨by rfl,?h6⟩) (by assumption) ?_
   case h6=>(intro w hSw;(try dsimp only at hSw);go_simp;(try with_reducible rfl))
   simp only[Act.put,List.setIfInBounds_toArray]
   refine wpAnyH_take (i:=7) (oi:=_) (v:=?v7) rfl (by kernel_rfl) (by kernel_rfl) (by kernel_rfl) (fun _ _ _ h=>h) (Or.inl ⟨by rfl,?h7⟩) (by assumption) ?_
   case h7=>(intro w hSw;(try dsimp only at hSw);go_simp;(try with_reducible rfl))
   simp only[Act.put,List.setIfInBounds_toArray]
   refine wpAnyH_ready (rs:=[8]) (by kernel_rfl) (by simp) ?_
   refine AllReadyH.cons (o:=_) rfl (fun K hK=>?_) AllReadyH.nil
   go_simp
   refine HCALL.out.mono ?_
   rintro e w3 ⟨v3,rfl,ho3,hb3⟩
   obtain⟨A3,c3,rfl⟩:=ho3.shape
   have hb3':Below wr.heap.size wr w3:=(Below.refl _ wr).drew.trans hb3
   have hp4:=(hb3'.block w1.heap.size hp3).trans HPA.out
   have hq4:=(hb3'.block w2.heap.size hq3).trans HQA.out
   have hpc3:w3.cell? ⟨w1.heap.size,k,none⟩=some (vs k):=by rw[Qa hp4,Q1 ps hk4,HPV.out k (Nat.le_refl _)]
   have hqc3:w3.cell? ⟨w2.heap.size,k,none⟩=some (us k):=(Qa hq4).trans (Q1 us hk4)
   have hf3:w3.frozen? ⟨w1.heap.size,k,none⟩=false:=Qb hp4
   have HP4:=hid hp4
   have HQ4:=hid hq4
   have HO3:=hid ho3
   have HB3:=hid hb3'
   clear hp4 hq4 ho3 hb3 hb3'
   dsimp only
   refine hK.out _ _ ⟨hpc3,hqc3⟩ (fun hHeld8=>?_)
   clear hK K
   simp only[List.setIfInBounds_toArray]
   refine wpAnyH_take (i:=9) (oi:=_) (v:=?v9) rfl (by kernel_rfl) (by kernel_rfl) (by kernel_rfl) (fun _ _ _ h=>h) (Or.inl ⟨by rfl,?h9⟩) (by assumption) ?_
   case h9=>(intro w hSw;(try dsimp only at hSw);go_simp;(try with_reducible rfl))
   simp only[Act.put,List.setIfInBounds_toArray]
   refine wpAnyH_done (by kernel_rfl) ?_ _
   change wpList _ _ _ _ _ _
   go_wp2_with fail
   go_roundw
   case rel=>
    have hs3:=HB3.out.size
    refine⟨k+1,by omega,by go_num,fun j=>if j=k then .slice A3 (byL (partL a k) (partL b k) how).length c3 else ps j,?_,?_,fun j hj=>?_,fun j hj=>?_,fun blk h1 h2=>?_,(hbr.trans (HB3.out.mono hsz)).setCell (Nat.le_refl _) _⟩
    ·rw[Qe HP4.out,XK ps hk4]
    ·exact (Below.heap_setCell _ _ _ _ (by show w2.heap.size≠w1.heap.size;omega)).trans HQ4.out
    ·by_cases e:j=k
     ·subst e
      simp only[if_true]
      exact (HO3.out.mono (by show _<=wr.heap.size;omega)).setOther (by show w1.heap.size<_;omega) _
     ·simp only[if_neg e]
      exact ((HPO.out j (by omega)).grow HB3.out).setOther (by show w1.heap.size<_;omega) _
    ·show (if j=k then _ else ps j)=vs j
     rw[if_neg (show ¬j=k by omega)];exact HPV.out j (by omega)
    ·exact (Below.heap_setCell _ _ _ _ (by show blk≠w1.heap.size;omega)).trans ((HB3.out.block blk (by omega)).trans (HKP.out blk h1 h2))
   case measure=>simp[intOf];omega
  ·obtain rfl:k=4:=by omega
   have d0:wr.cell? ⟨w1.heap.size,0,none⟩=some (ps 0):=Qa (i:=0) hpa
   have d1:wr.cell? ⟨w1.heap.size,1,none⟩=some (ps 1):=Qa (i:=1) hpa
   have d2:wr.cell? ⟨w1.heap.size,2,none⟩=some (ps 2):=Qa (i:=2) hpa
   have d3:wr.cell? ⟨w1.heap.size,3,none⟩=some (ps 3):=Qa (i:=3) hpa
   have HOL:∀ j:Nat,(byL (partL a (j:Int)) (partL b (j:Int)) how).length<=80001:=fun j=>by
    have:=XN (partL a (j:Int)) (partL b (j:Int)) how;have:=QA a (j:Int);have:=QA b (j:Int);omega
   have HSP:Hid (∀ j,j<4->SlP wr wr.heap.size 2 RuE (ps j) (byL (partL a (j:Int)) (partL b (j:Int)) how)):=fun j hj=>(hpo j hj).sl (by have:=HOL j;unfold Big;omega)
   have HOLH:=hid HOL
   clear hpa hqa hpo hpv hkp HOL
   go_wp2_with fail
   refine (Jo (fun j=>byL (partL a (j:Int)) (partL b (j:Int)) how) ps wr HSP.out (fun j _=>by have:=HOLH.out j;show (byL _ _ _).length<=_;omega)).mono ?_
   rintro e w4 ⟨v4,rfl,ho4,hb4⟩
   go_wp2_with fail
   go_ret
   exact⟨_,rfl,ho4.mono (by omega),(hb1.trans (hbr.mono hs1)).trans (hb4.mono (by omega))⟩
theorem VA:J9 163 0:=
 ⟨enters_of Tryz.func163 (by kernel_rfl) rfl,fun a b va vb W ha hb hra hrb hN hN'=>Vz a b va vb W ha hb hra hrb (by omega) (by omega)⟩
theorem VB (a b:List Sp)(va vb:Value)(w:World)(ha:SlP w w.heap.size 3 SpE va a)(hb:SlP w w.heap.size 3 SpE vb b)(hra:Ql a=true)(hrb:Ql b=true)(hN:a.length<=20000)(hN':b.length<=20000) :
  Calls Tryz.prog 118 #[va,vb] w (RetO w 45 3 (fun _=>SpE) (ctxBy a b 0)):=by
 go_enter Tryz.func118,Tryz.ntmps118
 go_wp2_with fail
 refine (qQu a b 0 _ VA va vb w ha hb hra hrb hN hN').mono ?_
 rintro e w1 ⟨v,rfl,h⟩
 go_wp2_with fail
 go_ret
 exact⟨v,rfl,h⟩
def cutL:List (Int×Int)->Int->Int->List (Int×Int)
 |[],lo,hi=>if lo<=hi then [(lo,hi)] else []
 |x :: b,lo,hi=>if x.2<lo∨hi<x.1 then cutL b lo hi else if lo<x.1 then (lo,x.1-1) :: cutL b (x.2+1) hi else cutL b (x.2+1) hi
def QE (a b:List (Int×Int)):List (Int×Int):=a.flatMap fun r=>cutL b r.1 r.2
theorem Ka {a b:List (Int×Int)}{k:Nat}{r:Int×Int}(h:a[k]?=some r):QE (a.take (k+1)) b=QE (a.take k) b++cutL b r.1 r.2:=by
 unfold QE;rw[List.take_add_one,h];simp
theorem qQv {b:List (Int×Int)}{k:Nat}{x:Int×Int}(h:b[k]?=some x)(lo hi:Int):cutL (b.drop k) lo hi=(if x.2<lo∨hi<x.1 then cutL (b.drop (k+1)) lo hi else if lo<x.1 then (lo,x.1-1) :: cutL (b.drop (k+1)) (x.2+1) hi else cutL (b.drop (k+1)) (x.2+1) hi):=by
 have hlt:=(List.getElem?_eq_some_iff.1 h).1
 rw[List.drop_eq_getElem_cons hlt,(List.getElem?_eq_some_iff.1 h).2,cutL]
theorem Yj (x:Int×Int)(l:List (Int×Int))(n:Int):hasL (x :: l) n=(inR x n||hasL l n):=rfl
theorem KV:∀ (l:List (Int×Int)) (q n:Int),runsR (some q) l=true->hasL l n=true->q+1<n
 |x :: l,q,n,h,hn=>by
  rw[Qo]at h
  obtain⟨h1,h2,h3⟩:=h
  unfold runOk at h1
  simp only[okR,decide_eq_true_eq]at h2
  rw[Yj,Bool.or_eq_true]at hn
  rcases hn with hn|hn
  ·simp[inR]at hn;omega
  ·have:=KV l x.2 n h3 hn;omega
 |[],q,n,_,hn=>by simp[hasL]at hn
theorem qYy {l:List (Int×Int)}{q:Int}(h:runsR (some q) l=true):∀ p:Option Int,(∀ q',p=some q'->q'<=q)->runsR p l=true:=by
 intro p hp
 cases l with
 |nil=>cases p<;>rfl
 |cons x l=>
  rw[Qo]at h ⊢
  refine⟨h.1,?_,h.2.2⟩
  cases p with
  |none=>rfl
  |some q'=>
   have:=hp q' rfl
   have h2:=h.2.1
   simp only[okR,decide_eq_true_eq]at h2 ⊢
   omega
theorem YU:∀ (b:List (Int×Int)) (p0 p:Option Int) (lo hi:Int) (rest:List (Int×Int)),runsR p0 b=true->okR p lo=true->1<=lo->hi<=1099511627776->(∀ q,p=some q->q<=hi)->runsR (some hi) rest=true->runsR p (cutL b lo hi++rest)=true
 |[],p0,p,lo,hi,rest,_,hp,h1,h2,hq,hr=>by
  rw[cutL]
  split
  ·rename_i hle
   rw[List.singleton_append,Qo]
   exact⟨⟨h1,hle,h2⟩,hp,hr⟩
  ·exact qYy hr p hq
 |x :: b,p0,p,lo,hi,rest,h,hp,h1,h2,hq,hr=>by
  rw[Qo]at h
  obtain⟨hx,_,hb⟩:=h
  unfold runOk at hx
  rw[cutL]
  split
  ·exact YU b _ p lo hi rest hb hp h1 h2 hq hr
  ·rename_i hc
   split
   ·rename_i hl
    rw[List.cons_append,Qo]
    exact⟨⟨h1,by show lo<=x.1-1;omega,by show x.1-1<=_;omega⟩,hp,YU b _ _ (x.2+1) hi rest hb (by simp only[okR,decide_eq_true_eq];omega) (by omega) h2 (fun q e=>by cases e;omega) hr⟩
   ·refine YU b _ p (x.2+1) hi rest hb ?_ (by omega) h2 hq hr
    cases p with
    |none=>rfl
    |some q=>simp only[okR,decide_eq_true_eq]at hp ⊢;omega
theorem XA (b:List (Int×Int))(hb:runsR none b=true):∀ (a:List (Int×Int)) (p:Option Int),runsR p a=true->runsR p (QE a b)=true
 |[],p,_=>by cases p<;>rfl
 |r :: a,p,h=>by
  rw[Qo]at h
  obtain⟨h1,h2,h3⟩:=h
  unfold runOk at h1
  show runsR p (cutL b r.1 r.2++QE a b)=true
  refine YU b none p r.1 r.2 _ hb h2 h1.1 h1.2.2 (fun q e=>?_) (XA b hb a _ h3)
  subst e
  simp only[okR,decide_eq_true_eq]at h2
  omega
theorem Kb:∀ (b:List (Int×Int)) (p:Option Int) (lo hi n:Int),runsR p b=true->hasL (cutL b lo hi) n=(decide (lo<=n)&&decide (n<=hi)&&!hasL b n)
 |[],p,lo,hi,n,_=>by
  rw[cutL]
  split
  ·simp[hasL,inR]
  ·rw[Bool.eq_iff_iff];simp[hasL];omega
 |x :: b,p,lo,hi,n,h=>by
  rw[Qo]at h
  obtain⟨hx,_,hb⟩:=h
  unfold runOk at hx
  have hgt:=KV b x.2 n hb
  have e1:=Kb b _ lo hi n hb
  have e2:=Kb b _ (x.2+1) hi n hb
  rw[cutL,Yj]
  have hin:inR x n=(decide (x.1<=n)&&decide (n<=x.2)):=rfl
  split
  ·rw[e1,hin]
   cases hbn:hasL b n<;>rw[Bool.eq_iff_iff]<;>simp<;>omega
  ·split
   ·rw[Yj,e2,Bool.eq_iff_iff]
    simp[inR]
    cases hbn:hasL b n<;>simp[hbn]at hgt ⊢<;>omega
   ·rw[e2,hin]
    cases hbn:hasL b n<;>simp[hbn]at hgt<;>rw[Bool.eq_iff_iff]<;>simp<;>omega
theorem qQw (a b:List (Int×Int))(n:Int):hasL (a++b) n=(hasL a n||hasL b n):=by unfold hasL;rw[List.any_append]
theorem JD (b:List (Int×Int))(hb:runsR none b=true)(n:Int):∀ (a:List (Int×Int)),hasL (QE a b) n=(hasL a n&&!hasL b n)
 |[]=>by simp[QE,hasL]
 |r :: a=>by
  show hasL (cutL b r.1 r.2++QE a b) n=_
  rw[qQw,Kb b none _ _ n hb,JD b hb n a,Yj,Bool.and_or_distrib_right];rfl
theorem KW {a b:List (Int×Int)}(ha:runsR none a=true)(hb:runsR none b=true):QE a b=byL a b 2:=by
 have h:=Zz (a:=a) (b:=b) 2 (Q2 a none ha) (Q2 b none hb)
 refine ZR _ _ none none (XA b hb a none ha) h.1 fun n=>?_
 rw[JD b hb n a,h.2 n]
 simp[inn]
theorem qQx (a b:List (Int×Int))(k:Nat):(QE (a.take k) b).length<=(QE a b).length:=by
 have h:QE a b=QE (a.take k) b++QE (a.drop k) b:=by unfold QE;rw[←List.flatMap_append,List.take_append_drop]
 rw[h];simp
theorem VC (a b:List (Int×Int))(va vb:Value)(w:World)(ha:SlP w w.heap.size 2 RuE va a)(hb:SlP w w.heap.size 2 RuE vb b)(hra:runsR none a=true)(hrb:runsR none b=true)(hN:(QE a b).length<=900000) :
  Calls Tryz.prog 187 #[va,vb] w (RetO w 181 2 (fun _=>RuE) (QE a b)):=by
 have HA:=hid ha
 have HB:=hid hb
 have HRA:=hid hra
 have HRB:=hid hrb
 obtain⟨A1,c1,rfl,a1,a2,a3⟩:=ha
 obtain⟨A2,c2,rfl,b1,b2,b3⟩:=hb
 unfold Big at a2 b2
 clear hra hrb
 go_enter Tryz.func187,Tryz.ntmps187
 go_wp2_with fail
 refine (JB a b _ _ w HA.out HB.out).mono ?_
 rw[HRA.out,HRB.out]
 rintro e w1 ⟨rfl,hb1⟩
 have hs1:=hb1.size
 go_wp2_with fail
 go_loopw [5,16] (fun v i wr=>∃ k:Nat,k<=a.length/\i=.int .i64 k/\OwnP wr w1.heap.size 181 2 RuE v (QE (a.take k) b)/\Below w1.heap.size w1 wr) (fun _ i _=>a.length-(intOf i).toNat)
 case atStart=>exact⟨0,Nat.zero_le _,rfl,OwnP.nil,Below.refl _ _⟩
 case round=>
  obtain⟨k,hk,rfl,hown,hbr⟩:=hrel
  have hsz:=hbr.size
  have hB0:Below w.heap.size w wr:=hb1.trans (hbr.mono hs1)
  by_cases hlt:k<a.length
  ·obtain⟨r,hr⟩:∃ x,a[k]?=some x:=⟨_,List.getElem?_eq_getElem hlt⟩
   obtain⟨bb,off,rfl,hbB,hc⟩:=a3 (by rintro rfl;simp at hlt)
   obtain⟨cs,⟨rfl,hok⟩,_,hu⟩:=hc k _ hr
   have e0:wr.cell? ⟨bb,off+k*2,none⟩=some (.int .i64 r.1):=(hB0.cell hbB).trans (hu 0 _ rfl)
   have e1:wr.cell? ⟨bb,off+k*2+1,none⟩=some (.int .i64 r.2):=(hB0.cell hbB).trans (hu 1 _ rfl)
   have hrok:=Q2 a none HRA.out r (List.mem_of_getElem? hr)
   unfold runOk at hrok
   have HX:=hid (Ka (b:=b) hr)
   have HLE:Hid ((QE (a.take (k+1)) b).length<=900000):=Nat.le_trans (qQx a b _) hN
   clear hu hc a3 hr
   go_wp2_with fail
   obtain⟨wo,rfl⟩:∃ wo:World,wo=wr:=⟨_,rfl⟩
   go_loopw [5,22] (fun v i wq=>∃ (j:Nat) (os:List (Int×Int)) (lo:Int),j<=b.length/\i=.int .i64 j/\OwnP wq w1.heap.size 181 2 RuE v os/\Hid (os++cutL (b.drop j) lo r.2=QE (a.take (k+1)) b)/\(∀ g,v.ownBlock=some g->g≠wo.heap.size) /\
     wq.heap[wo.heap.size]?=some (.cells #[.int .i64 lo,.int .i64 r.2] 181 (0,0))/\1<=lo/\lo<=1099511627777/\wo.heap.size<wq.heap.size/\Below w1.heap.size w1 wq) (fun _ i _=>b.length-(intOf i).toNat)
   case atStart=>exact⟨0,_,r.1,Nat.zero_le _,rfl,hown.alloc _,by unfold Hid;rw[HX.out];simp,fun g hg=>Nat.ne_of_lt (hown.lt g hg).2,Qh rfl,by omega,by omega,by simp,hbr.alloc (by omega) _⟩
   case round=>
    obtain⟨j,os,lo,hj,rfl,hown,HOS,hne,hg7,hl1,hl2,hsq,hbq⟩:=hrel
    have hBq:Below w.heap.size w wr:=hb1.trans (hbq.mono hs1)
    have d0:wr.cell? ⟨wo.heap.size,0,none⟩=some (.int .i64 lo):=Qa (i:=0) hg7
    have d1:wr.cell? ⟨wo.heap.size,1,none⟩=some (.int .i64 r.2):=Qa (i:=1) hg7
    have hf:=Qb (i:=0) hg7
    have hnq:wo.heap.size≠wr.heap.size:=by omega
    by_cases hlj:j<b.length
    ·obtain⟨x,hx⟩:∃ x,b[j]?=some x:=⟨_,List.getElem?_eq_getElem hlj⟩
     obtain⟨bb',off',rfl,hbB',hc⟩:=b3 (by rintro rfl;simp at hlj)
     obtain⟨cs,⟨rfl,hok'⟩,_,hu⟩:=hc j _ hx
     have f0:wr.cell? ⟨bb',off'+j*2,none⟩=some (.int .i64 x.1):=(hBq.cell hbB').trans (hu 0 _ rfl)
     have f1:wr.cell? ⟨bb',off'+j*2+1,none⟩=some (.int .i64 x.2):=(hBq.cell hbB').trans (hu 1 _ rfl)
     have hxok:=Q2 b none HRB.out x (List.mem_of_getElem? hx)
     unfold runOk at hxok
     have hcut:=qQv hx lo r.2
     clear hu hc b3 hx
     rcases t1:decide (x.2<lo)
     ·rcases t2:decide (r.2<x.1)
      ·have hno:¬(x.2<lo∨r.2<x.1):=by simp at t1 t2;omega
       rw[if_neg hno]at hcut
       rcases t3:decide (lo<x.1)
       ·have HO2:Hid (os++cutL (b.drop (j+1)) (x.2+1) r.2=QE (a.take (k+1)) b):=by
         have h:=HOS.out
         rw[hcut,if_neg (by simpa using t3)]at h;exact h
        clear hcut
        go_wp2_with fail
        have hW:=Qe (i:=0) hg7 (.int .i64 (x.2+1))
        have hZ:(wr.setCell ⟨wo.heap.size,0,none⟩ (.int .i64 (x.2+1))).heap.size=wr.heap.size:=by simp[World.setCell]
        go_roundw
        case rel=>exact⟨j+1,os,x.2+1,by omega,by go_num,(hown.keep fun g hg=>Below.heap_setCell _ _ _ _ (hne g hg)).alloc _,HO2,hne,(Qi (by omega)).trans (by simpa using hW),by omega,by omega,by rw[World.size_alloc];omega,(hbq.setCell (p:=⟨wo.heap.size,0,none⟩) (by show w1.heap.size<=wo.heap.size;omega) _).alloc (by omega) _⟩
        case measure=>simp[intOf];omega
       ·have HO2:Hid ((os++[(lo,x.1-1)])++cutL (b.drop (j+1)) (x.2+1) r.2=QE (a.take (k+1)) b):=by
         have h:=HOS.out
         rw[hcut,if_pos (by simpa using t3)]at h;unfold Hid;rw[←h];simp
        have hll:os.length+1<=900000:=by have h:=congrArg List.length HO2.out;have:=HLE.out;simp at h;omega
        have HRE:Hid (RuE (lo,x.1-1) [.int .i64 lo,.int .i64 (x.1-1)]):=⟨rfl,⟨by show _<=lo;omega,by show lo<=_;omega⟩,⟨by show _<=x.1-1;omega,by show x.1-1<=_;omega⟩⟩
        clear hcut
        go_wp2_with (at_builtin;go_loud (refine Yt rfl (.tmp 43) (.tmp 50) _ rfl eiRun (by decide) (fun _ _ h=>h.one) rfl ((hown.alloc _).alloc _) rfl (SlP.one (x:=(lo,x.1-1)) HRE.out rfl _ (by rw[World.size_alloc])) (by simp;omega) (by simp[Big];omega) (by rw[World.size_alloc,World.size_alloc];omega) ?_);intro v1 w4 hown4 hgr hob;go_loud (have hb4:Hid (Below w1.heap.size ((wr.alloc (.cells #[.int .i64 x.1,.int .i64 x.2] 181)).alloc (.cells #[.int .i64 lo,.int .i64 (x.1-1)] 181)) w4):=((Below.refl w1.heap.size _).grown hgr (by rw[World.size_alloc,World.size_alloc];omega) fun g hg=>(hown.lt g hg).1);have hg4:w4.heap[wo.heap.size]?=some (.cells #[.int .i64 lo,.int .i64 r.2] 181 (0,0)):=(hgr.block _ (by rw[World.size_alloc,World.size_alloc];omega) (fun e=>hne _ e.symm rfl)).trans ((Qi (by rw[World.size_alloc];omega)).trans ((Qi hsq).trans hg7));have g0:w4.cell? ⟨wo.heap.size,0,none⟩=some (.int .i64 lo):=Qa (i:=0) hg4;have gf:=Qb (i:=0) hg4;have hg5:w4.heap[wr.heap.size]?=some (.cells #[.int .i64 x.1,.int .i64 x.2] 181 (0,0)):=(hgr.block _ (by rw[World.size_alloc,World.size_alloc];omega) (fun e=>by have:=(hown.lt _ e.symm).2;omega)).trans ((Qi (by rw[World.size_alloc];omega)).trans (Qh rfl));have g1:w4.cell? ⟨wr.heap.size,1,none⟩=some (.int .i64 x.2):=Qa (i:=1) hg5))
        have hs4:=hb4.out.size
        have hz4:=hgr.size
        rw[World.size_alloc,World.size_alloc]at hz4
        have hne4:∀ g,v1.ownBlock=some g->g≠wo.heap.size:=fun g hg=>by
         rcases hob with h|h
         ·exact hne g (h▸hg)
         ·rw[h,World.size_alloc,World.size_alloc]at hg;cases hg;omega
        have hW:=Qe (i:=0) hg4 (.int .i64 (x.2+1))
        go_roundw
        case rel=>exact⟨j+1,_,x.2+1,by omega,by go_num,hown4.keep fun g hg=>Below.heap_setCell _ _ _ _ (hne4 g hg),HO2,hne4,by simpa using hW,by omega,by omega,by simp[World.setCell];omega,(((hbq.alloc (by omega) _).alloc (by rw[World.size_alloc];omega) _).trans hb4.out).setCell (p:=⟨wo.heap.size,0,none⟩) (by show w1.heap.size<=wo.heap.size;omega) _⟩
        case measure=>simp[intOf];omega
      ·have HO2:Hid (os++cutL (b.drop (j+1)) lo r.2=QE (a.take (k+1)) b):=by
        have h:=HOS.out
        rw[hcut,if_pos (.inr (by simpa using t2))]at h;exact h
       clear hcut
       go_wp2_with fail
       go_roundw
       case rel=>exact⟨j+1,os,lo,by omega,by go_num,hown.alloc _,HO2,hne,(Qi hsq).trans hg7,hl1,hl2,by simp;omega,hbq.alloc (by omega) _⟩
       case measure=>simp[intOf];omega
     ·have HO2:Hid (os++cutL (b.drop (j+1)) lo r.2=QE (a.take (k+1)) b):=by
       have h:=HOS.out
       rw[hcut,if_pos (.inl (by simpa using t1))]at h;exact h
      clear hcut
      go_wp2_with fail
      go_roundw
      case rel=>exact⟨j+1,os,lo,by omega,by go_num,hown.alloc _,HO2,hne,(Qi hsq).trans hg7,hl1,hl2,by simp;omega,hbq.alloc (by omega) _⟩
      case measure=>simp[intOf];omega
    ·obtain rfl:j=b.length:=by omega
     have hend:=HOS.out
     rw[List.drop_length,cutL]at hend
     rcases t4:decide (lo<=r.2)
     ·rw[if_neg (by simpa using t4),List.append_nil]at hend
      have HEN:=hid hend
      clear hend
      go_wp2_with fail
      go_roundw
      case rel=>exact⟨k+1,by omega,by go_num,by rw[←HEN.out];exact hown,hbq⟩
      case measure=>simp[intOf];omega
     ·rw[if_pos (by simpa using t4)]at hend
      have HEN:=hid hend
      have hll:os.length+1<=900000:=by have h:=congrArg List.length hend;have:=HLE.out;simp at h;omega
      have HL:Hid (os.length + [(lo,r.2)].length<=Few):=by unfold Hid Few;simp;omega
      have HRE:Hid (RuE (lo,r.2) [.int .i64 lo,.int .i64 r.2]):=⟨rfl,⟨by show _<=lo;omega,by show lo<=_;omega⟩,⟨by show _<=r.2;omega,by show r.2<=_;omega⟩⟩
      clear hend
      go_wp2_with (at_builtin;go_loud (refine Qj rfl (.tmp 62) (.tmp 64) _ rfl eiRun (by decide) (by decide) (fun _ _ h=>h.one) rfl (hown.alloc _) rfl (SlP.one (x:=(lo,r.2)) HRE.out rfl _ rfl) HL.out (by rw[World.size_alloc];omega) ?_);intro v1 w4 hown4 hb4 _)
      go_roundw
      case rel=>exact⟨k+1,by omega,by go_num,by rw[←HEN.out];exact hown4,(hbq.alloc (by omega) _).trans hb4⟩
      case measure=>simp[intOf];omega
  ·obtain rfl:k=a.length:=by omega
   rw[List.take_of_length_le (Nat.le_refl _)]at hown
   go_wp2_with fail
   go_ret
   exact⟨_,rfl,hown.mono hs1,hB0⟩
theorem qQy (l:List Dt):(ctxOf l).length<=4*(l.length+1):=QK l 4
theorem qQz (a b:List Sp)(how:Int):(ctxBy a b how).length<=4*(2*a.length+2*b.length+1):=Zn a b how 4
theorem VD:J9 187 2:=
 ⟨enters_of Tryz.func187 (by kernel_rfl) rfl,fun a b va vb W ha hb hra hrb hN hN'=>KW hra hrb▸VC a b va vb W ha hb hra hrb (by rw[KW hra hrb];have:=XN a b 2;omega)⟩
theorem VE (a b:List Sp)(va vb:Value)(w:World)(ha:SlP w w.heap.size 3 SpE va a)(hb:SlP w w.heap.size 3 SpE vb b)(hra:Ql a=true)(hrb:Ql b=true)(hN:a.length<=20000)(hN':b.length<=20000) :
  Calls Tryz.prog 145 #[va,vb] w (RetO w 45 3 (fun _=>SpE) (ctxBy a b 2)):=by
 go_enter Tryz.func145,Tryz.ntmps145
 go_wp2_with fail
 refine (qQu a b 2 _ VD va vb w ha hb hra hrb hN hN').mono ?_
 rintro e w1 ⟨v,rfl,h⟩
 go_wp2_with fail
 go_ret
 exact⟨v,rfl,h⟩
theorem ZK (c:List Sp)(vc:Value)(w:World)(h:SlP w w.heap.size 3 SpE vc c)(hN:c.length<=900000) :
  Calls Tryz.prog 121 #[vc] w fun e w'=>e=.returned (.bool (Ql c))/\Below w.heap.size w w':=by
 have HC:=hid h
 obtain⟨A,n,rfl,_⟩:=h
 go_enter Tryz.func121,Tryz.ntmps121
 go_wp2_with fail
 refine (Z1 c _ _ HC.out hN).mono ?_
 rintro e w1 ⟨vs,rfl,hsl,hb1⟩
 have hs1:=hb1.size
 obtain⟨A0,m0,g0,_⟩:=hsl 0 (by omega)
 obtain⟨A1,m1,g1,_⟩:=hsl 1 (by omega)
 obtain⟨A2,m2,g2,_⟩:=hsl 2 (by omega)
 obtain⟨A3,m3,g3,_⟩:=hsl 3 (by omega)
 simp only[g0,g1,g2,g3]
 clear hsl g0 g1 g2 g3
 go_wp2_with fail
 all_goals (go_ret;exact⟨rfl,hb1.alloc hs1 _⟩)
def cLeq (a b:List Sp):Bool:=Ql a&&(Ql b&&decide ((ctxBy a b 2).length=0))
theorem qXl (a b:List Sp)(va vb:Value)(w:World)(ha:SlP w w.heap.size 3 SpE va a)(hb:SlP w w.heap.size 3 SpE vb b)(hN:a.length<=20000)(hN':b.length<=20000) :
  Calls Tryz.prog 96 #[va,vb] w fun e w'=>e=.returned (.bool (cLeq a b))/\Below w.heap.size w w':=by
 have HA:=hid ha
 have HB:=hid hb
 obtain⟨A1,c1,rfl,_⟩:=ha
 obtain⟨A2,c2,rfl,_⟩:=hb
 go_enter Tryz.func96,Tryz.ntmps96
 go_wp2_with fail
 refine (ZK a _ w HA.out (by omega)).mono ?_
 rintro e w1 ⟨rfl,hb1⟩
 have hs1:=hb1.size
 cases ra:Ql a
 ·have HR:Hid (cLeq a b=false):=by unfold Hid cLeq;rw[ra];rfl
  clear ra
  go_wp2_with fail
  go_ret
  exact⟨Qd HR.out.symm,hb1⟩
 have RA:=hid ra
 go_wp2_with fail
 refine (ZK b _ w1 (HB.out.imp hb1 hs1 fun _ _ _ h=>h) (by omega)).mono ?_
 rintro e w2 ⟨rfl,hb2⟩
 have hs2:=hb2.size
 have hB2:Below w.heap.size w w2:=hb1.trans (hb2.mono hs1)
 cases rb:Ql b
 ·have HR:Hid (cLeq a b=false):=by unfold Hid cLeq;rw[ra,rb];rfl
  clear ra rb
  go_wp2_with fail
  go_ret
  exact⟨Qd HR.out.symm,hB2⟩
 have RB:=hid rb
 have HR:Hid (cLeq a b=decide ((ctxBy a b 2).length=0)):=by unfold Hid cLeq;rw[ra,rb];rfl
 clear ra rb
 go_wp2_with fail
 refine (VE a b _ _ w2 (HA.out.imp hB2 (by omega) fun _ _ _ h=>h) (HB.out.imp hB2 (by omega) fun _ _ _ h=>h) RA.out RB.out hN hN').mono ?_
 rintro e w3 ⟨v3,rfl,ho3,hb3⟩
 obtain⟨A5,c5,rfl⟩:=ho3.shape
 have hl:=qQz a b 2
 clear ho3
 generalize ctxBy a b 2=C at *
 rcases hz:decide (C.length=0)
 ·have hz2:C.length≠0:=by simpa using hz
  have HZ:=hid hz
  clear hz
  go_wp2_with fail
  go_ret
  exact⟨Qd (by rw[HR.out,HZ.out];simpa using hz2),hB2.trans (hb3.mono (by omega))⟩
 ·have hz2:C.length=0:=by simpa using hz
  have HZ:=hid hz
  clear hz
  go_wp2_with fail
  go_ret
  exact⟨Qd (by rw[HR.out,HZ.out]),hB2.trans (hb3.mono (by omega))⟩
def caR (t:Tr)(c:List Sp):Bool:=t.right 5&&cLeq (ctxOf t.dots) c
theorem Qv (t:Tr)(c:List Sp)(ve vk vc:Value)(w:World)(h:t.rd w w.heap.size ve vk)(hc:SlP w w.heap.size 3 SpE vc c)(hN:t.sz<=4000)(hN':c.length<=20000) :
  Calls Tryz.prog 48 #[.agg #[ve,vk,vc]] w fun e w'=>e=.returned (.bool (caR t c))/\Below w.heap.size w w':=by
 have HC:Hid (∀ w',Below w.heap.size w w'->t.rd w' w'.heap.size ve vk):=fun w' hb=>Qg hb hb.size _ _ _ h
 have HS:Hid (∀ w',Below w.heap.size w w'->SlP w' w'.heap.size 3 SpE vc c):=fun w' hb=>hc.imp hb hb.size fun _ _ _ h=>h
 have hd1:=qQy t.dots
 have hd2:=Zr t
 obtain⟨A3,n3,A4,n4,rfl,rfl⟩:=Qk h
 obtain⟨A5,n5,rfl,_⟩:=hc
 clear h
 have hb0:Below w.heap.size w (w.alloc (.cells #[.slice A3 t.es.length n3,.slice A4 t.ks.length n4,.slice A5 c.length n5] 29)):=(Below.refl _ w).alloc (Nat.le_refl _) _
 go_enter Tryz.func48,Tryz.ntmps48
 go_wp2_with fail
 refine (Jw t _ _ _ (HC.out _ hb0) (by omega)).mono ?_
 rintro e w1 ⟨v1,n1,rfl,hn1,ho1,hb1⟩
 have hs1:=hb1.size
 simp only[World.size_alloc]at hs1
 have hB1:Below w.heap.size w w1:=hb0.trans (hb1.mono (by simp))
 have b2:w1.cell? ⟨w.heap.size,2,none⟩=some (.slice A5 c.length n5):=by rw[hb1.cell (p:=⟨w.heap.size,2,none⟩) (by simp)];simp
 cases hr:t.right 5
 ·rw[hr]at hn1 ho1
  simp only[Bool.false_eq_true,if_false]at hn1 ho1
  subst hn1
  have HR:Hid (caR t c=false):=by unfold Hid caR;rw[hr];rfl
  obtain⟨A6,n6,rfl⟩:=ho1.shape
  clear hr ho1
  go_wp2_with fail
  go_ret
  exact⟨Qd HR.out.symm,hB1⟩
 ·rw[hr]at hn1 ho1
  simp only[if_true]at hn1 ho1
  subst hn1
  have HR:Hid (caR t c=cLeq (ctxOf t.dots) c):=by unfold Hid caR;rw[hr];rfl
  have HSL:=hid (ho1.sl (by unfold Big;omega))
  obtain⟨A6,n6,rfl⟩:=ho1.shape
  clear hr ho1
  go_wp2_with fail
  refine (qXl (ctxOf t.dots) c _ _ w1 HSL.out (HS.out _ hB1) (by omega) hN').mono ?_
  rintro e w2 ⟨rfl,hb2⟩
  go_wp2_with fail
  go_ret
  exact⟨Qd HR.out.symm,hB1.trans (hb2.mono (by omega))⟩
def rLeq (a b:List Sp):Bool:=decide ((ctxBy a b 2).length=0)
def r9R (t:Tr)(c:List Sp):Bool:=t.right 5&&(Ql c&&rLeq (ctxOf t.dots) c)
theorem qJi (t:Tr)(c:List Sp):caR t c=r9R t c:=by
 unfold caR r9R cLeq rLeq
 cases h:t.right 5
 ·rfl
 ·rw[QM (ZH t 5 h)];rfl
theorem qQ0 (ca cb:List Sp)(n:Nat)(a b:Tr)(va ka vb kb vca vcb:Value)(w:World)(ha:a.rd w w.heap.size va ka)(hb:b.rd w w.heap.size vb kb)(hca:SlP w w.heap.size 3 SpE vca ca)(hcb:SlP w w.heap.size 3 SpE vcb cb)(hoa:a.Ord)(hob:b.Ord)(hda:a.dep<=n)(hdb:b.dep<=n)(hza:a.sz<=100000)(hzb:b.sz<=100000)(hra:Ql ca=true)(hrb:Ql cb=true)(hN1:ca.length<=20000)(hN2:cb.length<=20000) :
  Calls Tryz.prog 68 #[.agg #[va,ka,vca],.agg #[vb,kb,vcb]] w (RetC w (joinT n ca cb a b) (ctxBy ca cb 0)):=by
 have HA:=hid ha
 have HB:=hid hb
 have HCA:Hid (∀ w',Below w.heap.size w w'->SlP w' w'.heap.size 3 SpE vca ca):=fun w' hb=>hca.imp hb hb.size fun _ _ _ h=>h
 have HCB:Hid (∀ w',Below w.heap.size w w'->SlP w' w'.heap.size 3 SpE vcb cb):=fun w' hb=>hcb.imp hb hb.size fun _ _ _ h=>h
 have HR1:=hid hra
 have HR2:=hid hrb
 have hul:=Zn ca cb 0 4
 have HUL:Hid ((ctxBy ca cb 0).length<=Big):=by unfold Hid ctxBy Big;omega
 obtain⟨A1,n1,A2,n2,rfl,rfl⟩:=Qk ha
 obtain⟨A3,n3,A4,n4,rfl,rfl⟩:=Qk hb
 obtain⟨A5,n5,rfl,_⟩:=hca
 obtain⟨A6,n6,rfl,_⟩:=hcb
 have HX:Hid (∀ W,Below (w.heap.size+3) (((w.alloc (.cells #[.slice A1 a.es.length n1,.slice A2 a.ks.length n2,.slice A5 ca.length n5] 29)).alloc (.cells #[.slice A3 b.es.length n3,.slice A4 b.ks.length n4,.slice A6 cb.length n6] 29)).alloc (.cells #[.slice none 0 0,.slice none 0 0,.slice none 0 0] 29)) W->Below w.heap.size w W/\W.heap[w.heap.size+2]?=some (.cells #[.slice none 0 0,.slice none 0 0,.slice none 0 0] 29 (0,0))/\w.heap.size+3<=W.heap.size/\(W.cell? ⟨w.heap.size,0,none⟩=some (.slice A1 a.es.length n1)/\W.cell? ⟨w.heap.size,1,none⟩=some (.slice A2 a.ks.length n2)/\W.cell? ⟨w.heap.size,2,none⟩=some (.slice A5 ca.length n5)/\W.cell? ⟨w.heap.size+1,0,none⟩=some (.slice A3 b.es.length n3)/\W.cell? ⟨w.heap.size+1,1,none⟩=some (.slice A4 b.ks.length n4)/\W.cell? ⟨w.heap.size+1,2,none⟩=some (.slice A6 cb.length n6))):=fun W hW=>by
  have g0:W.heap[w.heap.size]?=some (.cells #[.slice A1 a.es.length n1,.slice A2 a.ks.length n2,.slice A5 ca.length n5] 29 (0,0)):=(hW.block _ (by omega)).trans ((Qi (by simp<;>omega)).trans ((Qi (by simp)).trans (Qh rfl)))
  have g1:W.heap[w.heap.size+1]?=some (.cells #[.slice A3 b.es.length n3,.slice A4 b.ks.length n4,.slice A6 cb.length n6] 29 (0,0)):=(hW.block _ (by omega)).trans ((Qi (by simp)).trans (Qh (by simp)))
  have g2:W.heap[w.heap.size+2]?=some (.cells #[.slice none 0 0,.slice none 0 0,.slice none 0 0] 29 (0,0)):=(hW.block _ (by omega)).trans (Qh (by simp))
  exact⟨((((Below.refl _ w).alloc (Nat.le_refl _) _).alloc (by simp) _).alloc (by simp;omega) _).trans (hW.mono (by omega)),g2,by have:=hW.size;simpa using this,Qa (i:=0) g0,Qa (i:=1) g0,Qa (i:=2) g0,Qa (i:=0) g1,Qa (i:=1) g1,Qa (i:=2) g1⟩
 have hneA:w.heap.size+1+1≠w.heap.size:=by omega
 have hneB:w.heap.size≠w.heap.size+1+1:=by omega
 clear ha hb
 go_enter Tryz.func68,Tryz.ntmps68
 go_upto_region 1 with (fail)
 go_region_held3 (fun w'=>w'.cell? ⟨w.heap.size,0,none⟩=some (.slice A1 a.es.length n1)/\w'.cell? ⟨w.heap.size,1,none⟩=some (.slice A2 a.ks.length n2)/\w'.cell? ⟨w.heap.size,2,none⟩=some (.slice A5 ca.length n5)/\w'.cell? ⟨w.heap.size+1,0,none⟩=some (.slice A3 b.es.length n3)/\w'.cell? ⟨w.heap.size+1,1,none⟩=some (.slice A4 b.ks.length n4)/\w'.cell? ⟨w.heap.size+1,2,none⟩=some (.slice A6 cb.length n6))
  (first|go_keep|exact (HX.out _ hbk2.out).2.2.2|exact (HX.out _ hbk1.out).2.2.2)
  (first
      |(go_at_call 117;go_loud ((refine (Vx ca cb (by omega) (by omega) n a b _ _ _ _ _ _ _ (Qg (HX.out _ (by go_grown)).1 (HX.out _ (by go_grown)).1.size _ _ _ HA.out) (Qg (HX.out _ (by go_grown)).1 (HX.out _ (by go_grown)).1.size _ _ _ HB.out) (HCA.out _ (HX.out _ (by go_grown)).1) (HCB.out _ (HX.out _ (by go_grown)).1) hoa hob hda hdb hza hzb).mono ?_);rintro e w1 ⟨ve1,vk1,rfl,hrd1,hb⟩;obtain⟨Av,nv,Aw,nw,rfl,rfl⟩:=Qp hrd1;have HR:=hid hrd1;have hbk1:Hid (Below (w.heap.size+3) (((w.alloc (.cells #[.slice A1 a.es.length n1,.slice A2 a.ks.length n2,.slice A5 ca.length n5] 29)).alloc (.cells #[.slice A3 b.es.length n3,.slice A4 b.ks.length n4,.slice A6 cb.length n6] 29)).alloc (.cells #[.slice none 0 0,.slice none 0 0,.slice none 0 0] 29)) w1):=(Below.trans (by go_grown) (hb.mono (by simp)));clear hrd1 hb))
      |(go_at_call 118;go_loud ((refine (VB ca cb _ _ w1 (HCA.out _ (HX.out _ hbk1.out).1) (HCB.out _ (HX.out _ hbk1.out).1) HR1.out HR2.out hN1 hN2).mono ?_);rintro e w2 ⟨v2,rfl,ho2,hb2⟩;obtain⟨A7,c7,hv7⟩:=ho2.shape;subst hv7;have HO2:=hid ho2;have hbk2:=hid (hbk1.out.trans (hb2.mono (HX.out _ hbk1.out).2.2.1));have HG2:=hid (HX.out _ hbk2.out).2.1;have k0:w2.cell? ⟨w.heap.size+2,0,none⟩=some (.slice none 0 0):=Qa (i:=0) HG2.out;have k1:w2.cell? ⟨w.heap.size+2,1,none⟩=some (.slice none 0 0):=Qa (i:=1) HG2.out;have k2:w2.cell? ⟨w.heap.size+2,2,none⟩=some (.slice none 0 0):=Qa (i:=2) HG2.out;have z0:=Qb (i:=0) HG2.out;have z1:=Qb (i:=1) HG2.out;have z2:=Qb (i:=2) HG2.out;have HB2:=hid hb2;clear ho2 hb2)))
 all_goals (
  go_wp2_with fail
  have hs2:w.heap.size+3<=w2.heap.size:=(HX.out _ hbk2.out).2.2.1
  have hs1:w.heap.size+3<=w1.heap.size:=(HX.out _ hbk1.out).2.2.1
  have hs12:=HB2.out.size
  obtain⟨r0,r1,r2,hK,hS⟩:=box3 HG2.out (.slice Av (joinT n ca cb a b).es.length nv) (.slice Aw (joinT n ca cb a b).ks.length nw) (.slice A7 (ctxBy ca cb 0).length c7)
  have hBW:Below w.heap.size w (((w2.setCell ⟨w.heap.size+2,0,none⟩ (.slice Av (joinT n ca cb a b).es.length nv)).setCell ⟨w.heap.size+2,1,none⟩ (.slice Aw (joinT n ca cb a b).ks.length nw)).setCell ⟨w.heap.size+2,2,none⟩ (.slice A7 (ctxBy ca cb 0).length c7)):=(((HX.out _ hbk2.out).1.setCell (by simp) _).setCell (by simp) _).setCell (by simp) _
  clear k0 k1 k2 z0 z1 z2
  generalize (((w2.setCell ⟨w.heap.size+2,0,none⟩ (.slice Av (joinT n ca cb a b).es.length nv)).setCell ⟨w.heap.size+2,1,none⟩ (.slice Aw (joinT n ca cb a b).ks.length nw)).setCell ⟨w.heap.size+2,2,none⟩ (.slice A7 (ctxBy ca cb 0).length c7))=W at *
  refine bodyPost_ret (v:=.agg #[.slice Av (joinT n ca cb a b).es.length nv,.slice Aw (joinT n ca cb a b).ks.length nw,.slice A7 (ctxBy ca cb 0).length c7]) (by simp[results,Tryz.results68,go_sem,r0,r1,r2]) rfl ⟨_,_,_,rfl,?_,?_,hBW⟩
  ·exact Qw (fun b hb=>(hK b (by have:=hb.1;simp only[World.size_alloc,World.size_drew]at this;omega)).trans (HB2.out.block b hb.2)) (fun b hb=>⟨by have:=hb.1;simp only[World.size_alloc,World.size_drew]at this;omega,by have:=hb.2;omega⟩) _ _ _ HR.out
  ·exact (HO2.out.sla HUL.out).up (fun b hb=>hK b (by have:=hb.1;omega)) (fun b hb=>⟨by have:=hb.1;omega,by have:=hb.2.1;omega⟩) (fun _ _ _ h=>h))
theorem Yk {t:Tr}{c:List Sp}(h:caR t c=true):t.right 5=true:=by unfold caR at h;simp at h;exact h.1
theorem Yl {t:Tr}{c:List Sp}(h:caR t c=true):Ql c=true:=by rw[qJi]at h;unfold r9R at h;simp at h;exact h.2.1
theorem qQ1 {t:Tr}{c:List Sp}(h:caR t c=true):t.Ord:=Jh t 5 (Yk h)
theorem Kc {t:Tr}{c:List Sp}(h:caR t c=true):t.dep<=6:=by have:=qQl t 5 (Yk h);omega
def jnE (a b:Tr)(ca cb:List Sp):Int:=if caR a ca&&caR b cb then 0 else 1
def jnT (a b:Tr)(ca cb:List Sp):Tr:=if caR a ca&&caR b cb then joinT 6 ca cb a b else .mk [] []
def jnC (a b:Tr)(ca cb:List Sp):List Sp:=if caR a ca&&caR b cb then ctxBy ca cb 0 else []
theorem JE (ca cb:List Sp)(a b:Tr)(va ka vb kb vca vcb:Value)(w:World)(ha:a.rd w w.heap.size va ka)(hb:b.rd w w.heap.size vb kb)(hca:SlP w w.heap.size 3 SpE vca ca)(hcb:SlP w w.heap.size 3 SpE vcb cb)(hza:a.sz<=4000)(hzb:b.sz<=4000)(hN1:ca.length<=20000)(hN2:cb.length<=20000) :
  Calls Tryz.prog 28 #[.agg #[va,ka,vca],.agg #[vb,kb,vcb]] w (RetCE w (jnT a b ca cb) (jnC a b ca cb) (jnE a b ca cb)):=by
 have HA:=hid ha
 have HB:=hid hb
 have HCA:Hid (∀ w',Below w.heap.size w w'->SlP w' w'.heap.size 3 SpE vca ca):=fun w' hb=>hca.imp hb hb.size fun _ _ _ h=>h
 have HCB:Hid (∀ w',Below w.heap.size w w'->SlP w' w'.heap.size 3 SpE vcb cb):=fun w' hb=>hcb.imp hb hb.size fun _ _ _ h=>h
 obtain⟨A1,n1,A2,n2,rfl,rfl⟩:=Qk ha
 obtain⟨A3,n3,A4,n4,rfl,rfl⟩:=Qk hb
 obtain⟨A5,n5,rfl,_⟩:=hca
 obtain⟨A6,n6,rfl,_⟩:=hcb
 have HX:Hid (∀ W,Below (w.heap.size+3) (((w.alloc (.cells #[.slice A1 a.es.length n1,.slice A2 a.ks.length n2,.slice A5 ca.length n5] 29)).alloc (.cells #[.slice A3 b.es.length n3,.slice A4 b.ks.length n4,.slice A6 cb.length n6] 29)).alloc (.cells #[.slice none 0 0,.slice none 0 0,.slice none 0 0] 29)) W->Below w.heap.size w W/\W.heap[w.heap.size+2]?=some (.cells #[.slice none 0 0,.slice none 0 0,.slice none 0 0] 29 (0,0))/\w.heap.size+3<=W.heap.size/\(W.cell? ⟨w.heap.size,0,none⟩=some (.slice A1 a.es.length n1)/\W.cell? ⟨w.heap.size,1,none⟩=some (.slice A2 a.ks.length n2)/\W.cell? ⟨w.heap.size,2,none⟩=some (.slice A5 ca.length n5)/\W.cell? ⟨w.heap.size+1,0,none⟩=some (.slice A3 b.es.length n3)/\W.cell? ⟨w.heap.size+1,1,none⟩=some (.slice A4 b.ks.length n4)/\W.cell? ⟨w.heap.size+1,2,none⟩=some (.slice A6 cb.length n6))):=fun W hW=>by
  have g0:W.heap[w.heap.size]?=some (.cells #[.slice A1 a.es.length n1,.slice A2 a.ks.length n2,.slice A5 ca.length n5] 29 (0,0)):=(hW.block _ (by omega)).trans ((Qi (by simp<;>omega)).trans ((Qi (by simp)).trans (Qh rfl)))
  have g1:W.heap[w.heap.size+1]?=some (.cells #[.slice A3 b.es.length n3,.slice A4 b.ks.length n4,.slice A6 cb.length n6] 29 (0,0)):=(hW.block _ (by omega)).trans ((Qi (by simp)).trans (Qh (by simp)))
  have g2:W.heap[w.heap.size+2]?=some (.cells #[.slice none 0 0,.slice none 0 0,.slice none 0 0] 29 (0,0)):=(hW.block _ (by omega)).trans (Qh (by simp))
  exact⟨((((Below.refl _ w).alloc (Nat.le_refl _) _).alloc (by simp) _).alloc (by simp;omega) _).trans (hW.mono (by omega)),g2,by have:=hW.size;simpa using this,Qa (i:=0) g0,Qa (i:=1) g0,Qa (i:=2) g0,Qa (i:=0) g1,Qa (i:=1) g1,Qa (i:=2) g1⟩
 clear ha hb
 go_enter Tryz.func28,Tryz.ntmps28
 cases hc1:caR a ca
 ·have HR1:=hid hc1
  have HR2:Hid (caR b cb=caR b cb):=rfl
  have HE:Hid (jnE a b ca cb=1):=by unfold Hid jnE;rw[hc1];rfl
  have HTT:Hid (jnT a b ca cb=.mk [] []):=by unfold Hid jnT;rw[hc1];rfl
  have HCC:Hid (jnC a b ca cb=[]):=by unfold Hid jnC;rw[hc1];rfl
  clear hc1
  have hB0:=(HX.out _ (Below.refl _ _)).1
  go_wp2_with fail
  refine (Qv a ca _ _ _ _ (Qg hB0 hB0.size _ _ _ HA.out) (HCA.out _ hB0) hza hN1).mono ?_
  rw[HR1.out]
  rintro e w1 ⟨rfl,hb1⟩
  have hbq1:=hid (hb1.mono (show w.heap.size+3<=_ by simp))
  clear hb1 hB0
  obtain⟨hB1,hG,hsq,q0,q1,q2,q3,q4,q5⟩:=HX.out w1 hbq1.out
  have HG:=hid hG
  have k0:(w1).cell? ⟨w.heap.size+2,0,none⟩=some (.slice none 0 0):=Qa (i:=0) HG.out
  have k1:(w1).cell? ⟨w.heap.size+2,1,none⟩=some (.slice none 0 0):=Qa (i:=1) HG.out
  have k2:(w1).cell? ⟨w.heap.size+2,2,none⟩=some (.slice none 0 0):=Qa (i:=2) HG.out
  have z0:=Qb (i:=0) HG.out
  have z1:=Qb (i:=1) HG.out
  have z2:=Qb (i:=2) HG.out
  clear hG
  go_wp2_with fail
  obtain⟨r0,r1,r2,hK,hS⟩:=box3 HG.out (.slice none 0 0) (.slice none 0 0) (.slice none 0 0)
  have hBW:=((hB1.setCell (p:=⟨w.heap.size+2,0,none⟩) (by simp) (.slice none 0 0)).setCell (p:=⟨w.heap.size+2,1,none⟩) (by simp) (.slice none 0 0)).setCell (p:=⟨w.heap.size+2,2,none⟩) (by simp) (.slice none 0 0)
  refine bodyPost_ret (v:=.tuple #[.agg #[.slice none 0 0,.slice none 0 0,.slice none 0 0],.int .i64 1]) (by simp[results,Tryz.results28,go_sem,r0,r1,r2]) rfl ⟨_,_,_,by rw[HE.out],?_,?_,hBW⟩
  ·rw[HTT.out];exact Yz _ _
  ·rw[HCC.out];exact SlA.nil
 cases hc2:caR b cb
 ·have HR1:=hid hc1
  have HR2:=hid hc2
  have HE:Hid (jnE a b ca cb=1):=by unfold Hid jnE;rw[hc1,hc2];rfl
  have HTT:Hid (jnT a b ca cb=.mk [] []):=by unfold Hid jnT;rw[hc1,hc2];rfl
  have HCC:Hid (jnC a b ca cb=[]):=by unfold Hid jnC;rw[hc1,hc2];rfl
  clear hc1 hc2
  have hB0:=(HX.out _ (Below.refl _ _)).1
  go_wp2_with fail
  refine (Qv a ca _ _ _ _ (Qg hB0 hB0.size _ _ _ HA.out) (HCA.out _ hB0) hza hN1).mono ?_
  rw[HR1.out]
  rintro e w1 ⟨rfl,hb1⟩
  have hbq1:=hid (hb1.mono (show w.heap.size+3<=_ by simp))
  clear hb1 hB0
  obtain⟨hB1,hG,hsq,q0,q1,q2,q3,q4,q5⟩:=HX.out w1 hbq1.out
  have HG:=hid hG
  have k0:(w1).cell? ⟨w.heap.size+2,0,none⟩=some (.slice none 0 0):=Qa (i:=0) HG.out
  have k1:(w1).cell? ⟨w.heap.size+2,1,none⟩=some (.slice none 0 0):=Qa (i:=1) HG.out
  have k2:(w1).cell? ⟨w.heap.size+2,2,none⟩=some (.slice none 0 0):=Qa (i:=2) HG.out
  have z0:=Qb (i:=0) HG.out
  have z1:=Qb (i:=1) HG.out
  have z2:=Qb (i:=2) HG.out
  clear hG
  go_wp2_with fail
  refine (Qv b cb _ _ _ w1 (Qg hB1 hB1.size _ _ _ HB.out) (HCB.out _ hB1) hzb hN2).mono ?_
  rw[HR2.out]
  rintro e w2 ⟨rfl,hb2⟩
  have hbq2:=hid (hbq1.out.trans (hb2.mono hsq))
  clear hb2 hB1 k0 k1 k2 z0 z1 z2 q0 q1 q2 q3 q4 q5 hsq HG
  obtain⟨hB1,hG,hsq,q0,q1,q2,q3,q4,q5⟩:=HX.out w2 hbq2.out
  have HG:=hid hG
  have k0:(w2).cell? ⟨w.heap.size+2,0,none⟩=some (.slice none 0 0):=Qa (i:=0) HG.out
  have k1:(w2).cell? ⟨w.heap.size+2,1,none⟩=some (.slice none 0 0):=Qa (i:=1) HG.out
  have k2:(w2).cell? ⟨w.heap.size+2,2,none⟩=some (.slice none 0 0):=Qa (i:=2) HG.out
  have z0:=Qb (i:=0) HG.out
  have z1:=Qb (i:=1) HG.out
  have z2:=Qb (i:=2) HG.out
  clear hG
  go_wp2_with fail
  obtain⟨r0,r1,r2,hK,hS⟩:=box3 HG.out (.slice none 0 0) (.slice none 0 0) (.slice none 0 0)
  have hBW:=((hB1.setCell (p:=⟨w.heap.size+2,0,none⟩) (by simp) (.slice none 0 0)).setCell (p:=⟨w.heap.size+2,1,none⟩) (by simp) (.slice none 0 0)).setCell (p:=⟨w.heap.size+2,2,none⟩) (by simp) (.slice none 0 0)
  refine bodyPost_ret (v:=.tuple #[.agg #[.slice none 0 0,.slice none 0 0,.slice none 0 0],.int .i64 1]) (by simp[results,Tryz.results28,go_sem,r0,r1,r2]) rfl ⟨_,_,_,by rw[HE.out],?_,?_,hBW⟩
  ·rw[HTT.out];exact Yz _ _
  ·rw[HCC.out];exact SlA.nil
 ·have HR1:=hid hc1
  have HR2:=hid hc2
  have HE:Hid (jnE a b ca cb=0):=by unfold Hid jnE;rw[hc1,hc2];rfl
  have HTT:Hid (jnT a b ca cb=joinT 6 ca cb a b):=by unfold Hid jnT;rw[hc1,hc2];rfl
  have HCC:Hid (jnC a b ca cb=ctxBy ca cb 0):=by unfold Hid jnC;rw[hc1,hc2];rfl
  have HOA:=hid (qQ1 hc1)
  have HOB:=hid (qQ1 hc2)
  have HDA:=hid (Kc hc1)
  have HDB:=hid (Kc hc2)
  have HPA:=hid (Yl hc1)
  have HPB:=hid (Yl hc2)
  clear hc1 hc2
  have hB0:=(HX.out _ (Below.refl _ _)).1
  go_wp2_with fail
  refine (Qv a ca _ _ _ _ (Qg hB0 hB0.size _ _ _ HA.out) (HCA.out _ hB0) hza hN1).mono ?_
  rw[HR1.out]
  rintro e w1 ⟨rfl,hb1⟩
  have hbq1:=hid (hb1.mono (show w.heap.size+3<=_ by simp))
  clear hb1 hB0
  obtain⟨hB1,hG,hsq,q0,q1,q2,q3,q4,q5⟩:=HX.out w1 hbq1.out
  have HG:=hid hG
  have k0:(w1).cell? ⟨w.heap.size+2,0,none⟩=some (.slice none 0 0):=Qa (i:=0) HG.out
  have k1:(w1).cell? ⟨w.heap.size+2,1,none⟩=some (.slice none 0 0):=Qa (i:=1) HG.out
  have k2:(w1).cell? ⟨w.heap.size+2,2,none⟩=some (.slice none 0 0):=Qa (i:=2) HG.out
  have z0:=Qb (i:=0) HG.out
  have z1:=Qb (i:=1) HG.out
  have z2:=Qb (i:=2) HG.out
  clear hG
  go_wp2_with fail
  refine (Qv b cb _ _ _ w1 (Qg hB1 hB1.size _ _ _ HB.out) (HCB.out _ hB1) hzb hN2).mono ?_
  rw[HR2.out]
  rintro e w2 ⟨rfl,hb2⟩
  have hbq2:=hid (hbq1.out.trans (hb2.mono hsq))
  clear hb2 hB1 k0 k1 k2 z0 z1 z2 q0 q1 q2 q3 q4 q5 hsq HG
  obtain⟨hB1,hG,hsq,q0,q1,q2,q3,q4,q5⟩:=HX.out w2 hbq2.out
  have HG:=hid hG
  have k0:(w2).cell? ⟨w.heap.size+2,0,none⟩=some (.slice none 0 0):=Qa (i:=0) HG.out
  have k1:(w2).cell? ⟨w.heap.size+2,1,none⟩=some (.slice none 0 0):=Qa (i:=1) HG.out
  have k2:(w2).cell? ⟨w.heap.size+2,2,none⟩=some (.slice none 0 0):=Qa (i:=2) HG.out
  have z0:=Qb (i:=0) HG.out
  have z1:=Qb (i:=1) HG.out
  have z2:=Qb (i:=2) HG.out
  clear hG
  go_wp2_with fail
  refine (qQ0 ca cb 6 a b _ _ _ _ _ _ w2 (Qg hB1 hB1.size _ _ _ HA.out) (Qg hB1 hB1.size _ _ _ HB.out) (HCA.out _ hB1) (HCB.out _ hB1) HOA.out HOB.out HDA.out HDB.out (by omega) (by omega) HPA.out HPB.out hN1 hN2).mono ?_
  rintro e w5 ⟨ve,vk,vc,rfl,hrd5,hsl5,hb5⟩
  obtain⟨A7,n7,A8,n8,rfl,rfl⟩:=Qp hrd5
  have HS5:=hid hsl5
  obtain⟨A9,n9,hv9,_⟩:=hsl5
  subst hv9
  have HR5:=hid hrd5
  have hs25:=hb5.size
  have hs2:=hsq
  have hbq5:=hid (hbq2.out.trans (hb5.mono hsq))
  clear hrd5 hb5 hB1 k0 k1 k2 z0 z1 z2 q0 q1 q2 q3 q4 q5 hsq HG
  obtain⟨hB1,hG,hsq,q0,q1,q2,q3,q4,q5⟩:=HX.out w5 hbq5.out
  have HG:=hid hG
  have k0:(w5).cell? ⟨w.heap.size+2,0,none⟩=some (.slice none 0 0):=Qa (i:=0) HG.out
  have k1:(w5).cell? ⟨w.heap.size+2,1,none⟩=some (.slice none 0 0):=Qa (i:=1) HG.out
  have k2:(w5).cell? ⟨w.heap.size+2,2,none⟩=some (.slice none 0 0):=Qa (i:=2) HG.out
  have z0:=Qb (i:=0) HG.out
  have z1:=Qb (i:=1) HG.out
  have z2:=Qb (i:=2) HG.out
  clear hG
  go_wp2_with fail
  obtain⟨r0,r1,r2,hK,hS⟩:=box3 HG.out (.slice A7 (joinT 6 ca cb a b).es.length n7) (.slice A8 (joinT 6 ca cb a b).ks.length n8) (.slice A9 (ctxBy ca cb 0).length n9)
  have hBW:Below w.heap.size w (((w5.setCell ⟨w.heap.size+2,0,none⟩ (.slice A7 (joinT 6 ca cb a b).es.length n7)).setCell ⟨w.heap.size+2,1,none⟩ (.slice A8 (joinT 6 ca cb a b).ks.length n8)).setCell ⟨w.heap.size+2,2,none⟩ (.slice A9 (ctxBy ca cb 0).length n9)):=((hB1.setCell (by simp) _).setCell (by simp) _).setCell (by simp) _
  clear k0 k1 k2 z0 z1 z2
  generalize (((w5.setCell ⟨w.heap.size+2,0,none⟩ (.slice A7 (joinT 6 ca cb a b).es.length n7)).setCell ⟨w.heap.size+2,1,none⟩ (.slice A8 (joinT 6 ca cb a b).ks.length n8)).setCell ⟨w.heap.size+2,2,none⟩ (.slice A9 (ctxBy ca cb 0).length n9))=W at *
  refine bodyPost_ret (v:=.tuple #[.agg #[.slice A7 (joinT 6 ca cb a b).es.length n7,.slice A8 (joinT 6 ca cb a b).ks.length n8,.slice A9 (ctxBy ca cb 0).length n9],.int .i64 0]) (by simp[results,Tryz.results28,go_sem,r0,r1,r2]) rfl ⟨_,_,_,by rw[HE.out],?_,?_,hBW⟩
  ·rw[HTT.out]
   exact Qw (fun b hb=>hK b (by have:=hb.1;omega)) (fun b hb=>⟨by have:=hb.1;omega,by have:=hb.2;omega⟩) _ _ _ HR5.out
  ·rw[HCC.out]
   exact HS5.out.up (fun b hb=>hK b (by have:=hb.1;omega)) (fun b hb=>⟨by have:=hb.1;omega,by have:=hb.2;omega⟩) (fun _ _ _ h=>h)
/-! contexts by their dots -/
theorem Zo (a b:List Sp)(how:Int){i:Nat}(hi:i<4):partL (ctxBy a b how) i=byL (partL a i) (partL b i) how:=by
 rw[ZU,Zs,if_pos hi]
theorem ZL {c:List Sp}(h:Ql c=true){i:Nat}(hi:i<4):∀ r∈partL c i,runOk r:=J7 _ none (Qs h hi)
theorem XV {a b:List Sp}(ha:Ql a=true)(hb:Ql b=true)(how:Int):Ql (ctxBy a b how)=true:=by
 rw[ZU]
 exact Y7 fun i hi=>(Zz how (ZL ha hi) (ZL hb hi)).1
theorem qQ2 {a b:List Sp}(ha:Ql a=true)(hb:Ql b=true)(how:Int){d:Dt}(hd:d.right=true):hasC (ctxBy a b how) d=inn how (hasC a d) (hasC b d):=by
 have h1:=(KU hd).1
 obtain⟨i,hi⟩:∃ i:Nat,(i:Int)=d.dc:=⟨d.dc.toNat,by omega⟩
 have h4:i<4:=by omega
 unfold hasC
 rw[hd,←hi,Zo a b how h4,(Zz how (ZL ha h4) (ZL hb h4)).2]
 simp
theorem XB {c:List Sp}{d:Dt}(h:hasC c d=true):d.right=true:=by unfold hasC at h;rw[Bool.and_eq_true]at h;exact h.1
theorem QD {a b:List Sp}(ha:Ql a=true)(hb:Ql b=true)(d:Dt):hasC (ctxBy a b 0) d=(hasC a d||hasC b d):=by
 cases hd:d.right
 ·unfold hasC;simp[hd]
 ·rw[qQ2 ha hb 0 hd];rfl
theorem VF {a b:List Sp}(ha:Ql a=true)(hb:Ql b=true)(d:Dt):hasC (ctxBy a b 2) d=(hasC a d&&!hasC b d):=by
 cases hd:d.right
 ·unfold hasC;simp[hd]
 ·rw[qQ2 ha hb 2 hd];rfl
theorem qQ3 {l:List (Int×Int)}(h:∀ r∈l,runOk r){n:Int}(hn:hasL l n=true):1<=n/\n<=1099511627776:=by
 unfold hasL at hn
 obtain⟨r,hr,h1⟩:=List.any_eq_true.1 hn
 have:=h r hr
 unfold runOk at this
 unfold inR at h1
 simp at h1
 omega
theorem qXm {i:Nat}(hi:i<4){n:Int}(h:1<=n/\n<=1099511627776):(⟨i,n⟩:Dt).right=true:=by
 unfold Dt.right;simp;omega
theorem qQ4 {a b:List Sp}(ha:Ql a=true)(hb:Ql b=true)(h:∀ d,hasC a d=hasC b d):a=b:=by
 rw[←YG ha,←YG hb]
 refine KN fun i hi=>ZR _ _ none none (Qs ha hi) (Qs hb hi) fun n=>?_
 by_cases hn:1<=n/\n<=1099511627776
 ·have:=h ⟨i,n⟩
  unfold hasC at this
  rw[qXm hi hn]at this
  simpa using this
 ·have e1:hasL (partL a i) n=false:=by
   cases hc:hasL (partL a i) n
   ·rfl
   ·exact absurd (qQ3 (ZL ha hi) hc) hn
  have e2:hasL (partL b i) n=false:=by
   cases hc:hasL (partL b i) n
   ·rfl
   ·exact absurd (qQ3 (ZL hb hi) hc) hn
  rw[e1,e2]
theorem JF:Ql []=true:=by kernel_rfl
theorem KX (d:Dt):hasC [] d=false:=by unfold hasC partL hasL;simp
theorem qYz {c:List Sp}(hc:Ql c=true):c=[]↔∀ d,hasC c d=false:=by
 constructor
 ·rintro rfl;exact KX
 ·intro h;exact qQ4 hc JF fun d=>by rw[h,KX]
theorem XW {a b:List Sp}(ha:Ql a=true)(hb:Ql b=true):cLeq a b=true↔∀ d,hasC a d=true->hasC b d=true:=by
 unfold cLeq
 rw[ha,hb,Bool.true_and,Bool.true_and,decide_eq_true_eq,List.length_eq_zero_iff,qYz (XV ha hb 2)]
 refine forall_congr' fun d=>?_
 rw[VF ha hb]
 cases hasC a d<;>cases hasC b d<;>simp
/-! right trees by their leaves -/
theorem qQ5:∀ (es:List En) (p:Option Dt),(es.Pairwise fun a b=>a.dot.lt b.dot=true)->(∀ e∈es,okP p e.dot=true)->(∀ e∈es,e.right=true)->entsB p es=true
 |[],_,_,_,_=>by unfold entsB;rfl
 |e :: es,p,h,h1,h2=>by
  obtain⟨h3,h4⟩:=List.pairwise_cons.1 h
  rw[Q4,h2 e (by simp),h1 e (by simp),qQ5 es (some e.dot) h4 (fun a ha=>h3 a ha) fun a ha=>h2 a (by simp[ha])];rfl
theorem qQ6 (d:Int):∀ (ks:List Kd) (p:Option ByteArray),(ks.Pairwise fun a b=>ltS a.1 b.1=true)->(∀ x∈ks,okK p x.1=true)->(∀ k t,(k,t)∈ks->keyB k=true/\t.empty=false/\t.right (d-1)=true)->Tr.rightL p ks d=true
 |[],p,_,_,_=>by cases p<;>rw[Tr.rightL]
 |(k,t) :: ks,p,h,h1,h2=>by
  obtain⟨h3,h4⟩:=List.pairwise_cons.1 h
  obtain⟨g1,g2,g3⟩:=h2 k t (by simp)
  rw[QL,g1,g2,g3,h1 (k,t) (by simp),qQ6 d ks (some k) h4 (fun a ha=>h3 a ha) fun k' t' hm=>h2 k' t' (by simp[hm])];rfl
def LfR (n:Int)(x:Lf):Prop:=(x.1.length:Int)+1<=n/\(∀ k∈x.1,keyB k=true)/\x.2.right=true
theorem YH:∀ (t:Tr) (n:Int),t.right n=true->∀ x∈t.lvs [],LfR n x:=by
 intro t
 induction t using Tr.ind with
 |h es ks ih=>
 intro n h x hx
 rw[Tr.right,Bool.and_eq_true,Bool.and_eq_true]at h
 have hn:=of_decide_eq_true h.1.1
 obtain⟨p,e⟩:=x
 match p with
 |[]=>
  have he:=Q9.1 hx
  refine⟨by simpa using hn,by simp,?_⟩
  have:∀ (es:List En) (p:Option Dt),entsB p es=true->∀ e∈es,e.right=true:=by
   intro es
   induction es with
   |nil=>intro _ _ _ h;cases h
   |cons y es ih=>
    intro p h e he
    rw[Q4,Bool.and_eq_true,Bool.and_eq_true]at h
    rcases List.mem_cons.1 he with rfl|he
    ·exact h.1.1
    ·exact ih _ h.2 e he
  exact this es none h.1.2 e he
 |k :: qs=>
  obtain⟨t,hm,hx⟩:=Qq.1 hx
  have hk:∀ (ks:List Kd) (p:Option ByteArray),Tr.rightL p ks n=true->∀ k t,(k,t)∈ks->keyB k=true/\t.right (n-1)=true:=by
   intro ks
   induction ks with
   |nil=>intro _ _ _ _ h;cases h
   |cons y ks ih=>
    obtain⟨y1,y2⟩:=y
    intro p h k t he
    rw[QL,Bool.and_eq_true,Bool.and_eq_true,Bool.and_eq_true,Bool.and_eq_true]at h
    obtain⟨⟨⟨⟨a1,a2⟩,a3⟩,a4⟩,a5⟩:=h
    rcases List.mem_cons.1 he with he|he
    ·cases he;exact⟨a1,a4⟩
    ·exact ih _ a5 k t he
  obtain⟨h1,h2⟩:=hk ks none h.2 k t hm
  obtain⟨g1,g2,g3⟩:=ih k t hm _ h2 _ hx
  exact⟨by simp at g1 ⊢;omega,fun q hq=>by
   rcases List.mem_cons.1 hq with rfl|hq
   ·exact h1
   ·exact g2 q hq,g3⟩
theorem XX:∀ (t:Tr) (n:Int),1<=n->t.Ord->(∀ x∈t.lvs [],LfR n x)->t.right n=true:=by
 intro t
 induction t using Tr.ind with
 |h es ks ih=>
 intro n hn ho hl
 obtain⟨h1,h2,h3⟩:=QV.1 ho
 rw[Tr.right,Bool.and_eq_true,Bool.and_eq_true]
 refine⟨⟨by simpa using hn,qQ5 es none h1 (fun _ _=>rfl) fun e he=>(hl ([],e) (Q9.2 he)).2.2⟩,qQ6 n ks none h2 (fun _ _=>rfl) fun k t hm=>?_⟩
 obtain⟨g1,g2,g3⟩:=h3 k t hm
 have hsub:∀ x∈t.lvs [],LfR (n-1) x/\keyB k=true:=by
  rintro⟨qs,e⟩ hx
  obtain⟨f1,f2,f3⟩:=hl (k :: qs,e) (Qq.2 ⟨t,hm,hx⟩)
  exact⟨⟨by simp at f1 ⊢;omega,fun q hq=>f2 q (by simp[hq]),f3⟩,f2 k (by simp)⟩
 obtain⟨x,hx⟩:=XQ t g3 g2
 have hd:=(hsub x hx).1.1
 exact⟨(hsub x hx).2,g2,ih k t hm (n-1) (by omega) g3 fun x hx=>(hsub x hx).1⟩
theorem JG {t:Tr}(h:t.Ord):t.right 5=true↔∀ x∈t.lvs [],LfR 5 x:=⟨YH t 5,XX t 5 (by omega) h⟩
/-! the dots of a tree -/
theorem qQ7 {ks:List Kd}{d:Dt}:d∈Tr.dotsL ks↔∃ k t,(k,t)∈ks/\d∈t.dots:=by
 induction ks with
 |nil=>simp[Tr.dotsL]
 |cons y ks ih=>
  obtain⟨k,t⟩:=y
  rw[Tr.dotsL,List.mem_append,ih]
  constructor
  ·rintro (h|⟨k',t',hm,h⟩)
   ·exact⟨k,t,by simp,h⟩
   ·exact⟨k',t',by simp[hm],h⟩
  ·rintro⟨k',t',hm,h⟩
   rcases List.mem_cons.1 hm with e|hm
   ·cases e;exact .inl h
   ·exact .inr ⟨k',t',hm,h⟩
theorem XY (t:Tr):∀ d,d∈t.dots↔∃ p e,((p,e):Lf)∈t.lvs []/\e.dot=d:=by
 induction t using Tr.ind with
 |h es ks ih=>
 intro d
 rw[Tr.dots,List.mem_append,List.mem_map,qQ7]
 constructor
 ·rintro (⟨e,he,rfl⟩|⟨k,t,hm,hd⟩)
  ·exact⟨[],e,Q9.2 he,rfl⟩
  ·obtain⟨p,e,hp,rfl⟩:=(ih k t hm d).1 hd
   exact⟨k :: p,e,Qq.2 ⟨t,hm,hp⟩,rfl⟩
 ·rintro⟨p,e,hx,rfl⟩
  match p with
  |[]=>exact .inl ⟨e,Q9.1 hx,rfl⟩
  |k :: qs=>
   obtain⟨t,hm,hx⟩:=Qq.1 hx
   exact .inr ⟨k,t,hm,(ih k t hm _).2 ⟨qs,e,hx,rfl⟩⟩
theorem JH {e:En}(h:e.right=true):e.dot.right=true:=by
 unfold En.right at h;simp at h;exact h.1
theorem Q6 {t:Tr}(h:t.right 5=true):∀ d∈t.dots,d.right=true:=fun d hd=>by
 obtain⟨p,e,hx,rfl⟩:=(XY t d).1 hd
 exact JH (YH t 5 h _ hx).2.2
theorem Ym {t:Tr}(h:t.right 5=true){d:Dt}:hasC (ctxOf t.dots) d=true↔d∈t.dots:=by
 constructor
 ·intro hc;rw[ZG (Q6 h) (XB hc)]at hc;simpa using hc
 ·intro hm;rw[ZG (Q6 h) (Q6 h d hm)];simpa using hm
/-! what is known, right -/
structure CaOk (t:Tr)(c:List Sp):Prop where
 ord:t.Ord
 leaf:∀ x∈t.lvs [],LfR 5 x
 ap:Ql c=true
 has:∀ x∈t.lvs [],hasC c x.2.dot=true
theorem YI {t:Tr}{c:List Sp}:caR t c=true↔CaOk t c:=by
 unfold caR
 rw[Bool.and_eq_true]
 constructor
 ·rintro⟨h1,h2⟩
  have hc:Ql c=true:=by unfold cLeq at h2;simp only[Bool.and_eq_true]at h2;exact h2.2.1
  refine⟨Jh t 5 h1,YH t 5 h1,hc,fun x hx=>?_⟩
  have ha:=QM (Q6 h1)
  exact (XW ha hc).1 h2 _ ((Ym h1).2 ((XY t _).2 ⟨x.1,x.2,hx,rfl⟩))
 ·rintro⟨h1,h2,h3,h4⟩
  have hr:=(JG h1).2 h2
  refine⟨hr,(XW (QM (Q6 hr)) h3).2 fun d hd=>?_⟩
  obtain⟨p,e,hx,rfl⟩:=(XY t d).1 ((Ym hr).1 hd)
  exact h4 _ hx
theorem CaOk.dep {t:Tr}{c:List Sp}(h:CaOk t c):t.dep<=6:=Kc (YI.2 h)
theorem CaOk.ext {s t:Tr}{c d:List Sp}(h:CaOk s c)(k:CaOk t d)(hl:∀ p e,((p,e):Lf)∈s.lvs []↔((p,e):Lf)∈t.lvs [])(hd:∀ x,hasC c x=hasC d x):s=t/\c=d:=
 ⟨qYn s t h.ord k.ord fun ⟨p,e⟩=>hl p e,qQ4 h.ap k.ap hd⟩
abbrev jT (a b:Tr)(ca cb:List Sp):Tr:=joinT 6 ca cb a b
abbrev jC (ca cb:List Sp):List Sp:=ctxBy ca cb 0
theorem qQ8 {a b:Tr}{ca cb:List Sp}(ha:CaOk a ca)(hb:CaOk b cb)(p:List ByteArray)(e:En):((p,e):Lf)∈(jT a b ca cb).lvs []↔EntJ ca cb (fun x=>((p,x):Lf)∈a.lvs []) (fun y=>((p,y):Lf)∈b.lvs []) e:=
 (Xy ca cb 6 a b ha.ord hb.ord ha.dep hb.dep).2 p e
theorem qY0 (x y:En):grtE x y=x∨grtE x y=y:=by unfold grtE;split<;>simp
theorem EntJ.leaf {ca cb:List Sp}{a b:En->Prop}{e:En}(h:EntJ ca cb a b e):a e∨b e:=by
 rcases h with⟨x,y,hx,hy,_,rfl⟩|⟨hx,_,_⟩|⟨hx,_,_⟩
 ·rcases qY0 x y with h|h<;>rw[h]
  ·exact .inl hx
  ·exact .inr hy
 ·exact .inl hx
 ·exact .inr hx
theorem jT_ok {a b:Tr}{ca cb:List Sp}(ha:CaOk a ca)(hb:CaOk b cb):CaOk (jT a b ca cb) (jC ca cb):=by
 refine⟨(Xy ca cb 6 a b ha.ord hb.ord ha.dep hb.dep).1,fun x hx=>?_,XV ha.ap hb.ap 0,fun x hx=>?_⟩
 ·obtain⟨p,e⟩:=x
  rcases ((qQ8 ha hb p e).1 hx).leaf with h|h
  ·exact ha.leaf _ h
  ·exact hb.leaf _ h
 ·obtain⟨p,e⟩:=x
  rw[QD ha.ap hb.ap]
  rcases ((qQ8 ha hb p e).1 hx).leaf with h|h
  ·rw[ha.has _ h];rfl
  ·rw[hb.has _ h];simp
theorem jn_ok {a b:Tr}{ca cb:List Sp}(ha:CaOk a ca)(hb:CaOk b cb):jnE a b ca cb=0/\jnT a b ca cb=jT a b ca cb/\jnC a b ca cb=jC ca cb:=by
 unfold jnE jnT jnC
 rw[YI.2 ha,YI.2 hb]
 exact⟨rfl,rfl,rfl⟩
theorem qQ9 {y x:En}:gtE y x=true↔x.v<y.v∨(y.v=x.v/\ltS x.s y.s=true):=by unfold gtE;simp
theorem qYe {y x:En}:gtE y x=false↔y.v<x.v∨(y.v=x.v/\ltS x.s y.s=false):=by
 rw[←Bool.not_eq_true,qQ9]
 cases ltS x.s y.s<;>simp<;>omega
theorem qZa {x y z:En}(h:gtE x y=true)(k:gtE y z=true):gtE x z=true:=by
 rw[qQ9]at *
 rcases h with h|⟨h,h'⟩<;>rcases k with k|⟨k,k'⟩
 ·exact .inl (by omega)
 ·exact .inl (by omega)
 ·exact .inl (by omega)
 ·exact .inr ⟨by omega,QI k' h'⟩
theorem qXn (x:En):gtE x x=false:=by rw[qYe];exact .inr ⟨rfl,Qz _⟩
theorem qZb {x y:En}(hd:x.dot=y.dot)(h:gtE x y=false)(k:gtE y x=false):x=y:=by
 rw[qYe]at *
 rcases h with h|⟨h,h'⟩<;>rcases k with k|⟨k,k'⟩
 ·omega
 ·omega
 ·omega
 ·have:=ZZ h' k'
  obtain⟨a,b,c,d⟩:=x
  obtain⟨a',b',c',d'⟩:=y
  simp only[En.dot,Dt.mk.injEq]at hd
  simp only at this h
  obtain⟨rfl,rfl⟩:=hd
  subst this;subst h;rfl
theorem qXo {x y:En}(hd:x.dot=y.dot):grtE x y=grtE y x:=by
 rw[Zi,Zi]
 cases h1:gtE y x<;>cases h2:gtE x y<;>simp
 ·exact qZb hd h2 h1
 ·have:=qZa h1 h2;rw[qXn]at this;cases this
theorem qZc {x y z:En}(_:x.dot=y.dot)(h2:y.dot=z.dot):grtE (grtE x y) z=grtE x (grtE y z):=by
 rw[Zi x y,Zi y z]
 cases a:gtE y x<;>cases b:gtE z y<;>simp only[if_true,if_false,Bool.false_eq_true]
 ·rw[Zi x z,Zi x y,a]
  cases c:gtE z x
  ·simp
  ·simp
   -- z > x, not z > y, not y > x : then y ≥ z > x, so y > x
   exfalso
   cases d:gtE y z
   ·have:=qZb h2 d b;subst this;rw[a]at c;cases c
   ·have:=qZa d c;rw[a]at this;cases this
 ·rw[Zi y z,b,Zi x y,a];rfl
 ·rw[Zi y z,b,Zi x z,qZa b a];rfl
def stE (t:Tr)(p:List ByteArray)(d:Dt):Option En:=((t.lvs []).find? fun x=>decide (x.1=p)&&decide (x.2.dot=d)).map (·.2)
theorem QF {t:Tr}(h:t.Ord){p:List ByteArray}{d:Dt}{e:En}:stE t p d=some e↔((p,e):Lf)∈t.lvs []/\e.dot=d:=by
 unfold stE
 constructor
 ·intro hs
  obtain⟨⟨q,f⟩,h1,h2⟩:=Option.map_eq_some_iff.1 hs
  have h3:=List.find?_some h1
  have h4:=List.mem_of_find?_eq_some h1
  simp at h2 h3
  obtain⟨rfl,h3⟩:=h3
  subst h2
  exact⟨h4,h3⟩
 ·rintro⟨hm,hd⟩
  cases hf:(t.lvs []).find? fun x=>decide (x.1=p)&&decide (x.2.dot=d) with
  |none=>
   have:=List.find?_eq_none.1 hf _ hm
   simp[hd]at this
  |some y=>
   have h3:=List.find?_some hf
   have h4:=List.mem_of_find?_eq_some hf
   simp at h3
   have:=(qXb t h).one y h4 (p,e) hm h3.1 (h3.2.trans hd.symm)
   subst this;rfl
theorem XZ {t:Tr}(h:t.Ord){p:List ByteArray}{d:Dt}:stE t p d=none↔∀ e,((p,e):Lf)∈t.lvs []->e.dot≠d:=by
 constructor
 ·intro hs e hm hd
  rw[(QF h).2 ⟨hm,hd⟩]at hs;cases hs
 ·intro hn
  cases hs:stE t p d with
  |none=>rfl
  |some e=>exact absurd ((QF h).1 hs).2 (hn e ((QF h).1 hs).1)
def jnO (x:Option En)(k:Bool)(y:Option En)(l:Bool):Option En:=
 match x,y with
 |some x,some y=>some (grtE x y)
 |some x,none=>if l then none else some x
 |none,some y=>if k then none else some y
 |none,none=>none
theorem qY1 {t s:Tr}{ca cb:List Sp}(ht:t.Ord)(hs:s.Ord)(hca:Ql ca=true)(hcb:Ql cb=true)(p:List ByteArray)(d:Dt)(e:En) :
  (EntJ ca cb (fun x=>((p,x):Lf)∈t.lvs []) (fun y=>((p,y):Lf)∈s.lvs []) e/\e.dot=d)↔jnO (stE t p d) (hasC ca d) (stE s p d) (hasC cb d)=some e:=by
 unfold EntJ
 simp only[Yi hca,Yi hcb]
 cases h1:stE t p d with
 |none=>
  have n1:=(XZ ht).1 h1
  cases h2:stE s p d with
  |none=>
   have n2:=(XZ hs).1 h2
   constructor
   ·rintro⟨⟨x,y,hx,hy,hd,rfl⟩|⟨hx,_⟩|⟨hx,_⟩,hd'⟩
    ·rw[Zh hd]at hd';exact absurd hd' (n1 x hx)
    ·exact absurd hd' (n1 e hx)
    ·exact absurd hd' (n2 e hx)
   ·intro h;cases h
  |some y=>
   obtain⟨hy,hyd⟩:=(QF hs).1 h2
   constructor
   ·rintro⟨⟨x,y,hx,hy,hd,rfl⟩|⟨hx,_⟩|⟨hx,hn,hh⟩,hd'⟩
    ·rw[Zh hd]at hd';exact absurd hd' (n1 x hx)
    ·exact absurd hd' (n1 e hx)
    ·have:=(QF hs).2 ⟨hx,hd'⟩
     rw[h2]at this
     cases this
     rw[hd']at hh
     simp[jnO,hh]
   ·intro h
    unfold jnO at h
    simp only at h
    split at h
    ·cases h
    ·rename_i hh
     cases h
     exact⟨.inr (.inr ⟨hy,fun x hx hxd=>n1 x hx (hxd.trans hyd),by rw[hyd];simpa using hh⟩),hyd⟩
 |some x=>
  obtain⟨hx,hxd⟩:=(QF ht).1 h1
  cases h2:stE s p d with
  |none=>
   have n2:=(XZ hs).1 h2
   constructor
   ·rintro⟨⟨x',y,hx',hy,hd,rfl⟩|⟨hx',hn,hh⟩|⟨hx',hn,hh⟩,hd'⟩
    ·rw[Zh hd]at hd';exact absurd (hd.symm.trans hd') (n2 y hy)
    ·have:=(QF ht).2 ⟨hx',hd'⟩
     rw[h1]at this
     cases this
     rw[hd']at hh
     simp[jnO,hh]
    ·exact absurd hd' (n2 e hx')
   ·intro h
    unfold jnO at h
    simp only at h
    split at h
    ·cases h
    ·rename_i hh
     cases h
     exact⟨.inr (.inl ⟨hx,fun y hy hyd=>n2 y hy (hyd.trans hxd),by rw[hxd];simpa using hh⟩),hxd⟩
  |some y=>
   obtain⟨hy,hyd⟩:=(QF hs).1 h2
   constructor
   ·rintro⟨⟨x',y',hx',hy',hd,rfl⟩|⟨hx',hn,hh⟩|⟨hx',hn,hh⟩,hd'⟩
    ·rw[Zh hd]at hd'
     have e1:=(QF ht).2 ⟨hx',hd'⟩
     have e2:=(QF hs).2 ⟨hy',hd.symm.trans hd'⟩
     rw[h1]at e1;rw[h2]at e2
     cases e1;cases e2
     rfl
    ·exact absurd (hyd.trans hd'.symm) (hn y hy)
    ·exact absurd (hxd.trans hd'.symm) (hn x hx)
   ·intro h
    unfold jnO at h
    cases h
    exact⟨.inl ⟨x,y,hx,hy,hxd.trans hyd.symm,rfl⟩,(Zh (hxd.trans hyd.symm)).trans hxd⟩
theorem ZM {a b:Tr}{ca cb:List Sp}(ha:CaOk a ca)(hb:CaOk b cb)(p:List ByteArray)(d:Dt):stE (jT a b ca cb) p d=jnO (stE a p d) (hasC ca d) (stE b p d) (hasC cb d):=by
 refine Option.ext fun e=>?_
 rw[QF (jT_ok ha hb).ord,←qY1 ha.ord hb.ord ha.ap hb.ap,qQ8 ha hb]
theorem Q0 {a:Tr}{ca:List Sp}(ha:CaOk a ca){p:List ByteArray}{d:Dt}{e:En}(h:stE a p d=some e):hasC ca d=true/\e.dot=d:=by
 obtain⟨h1,h2⟩:=(QF ha.ord).1 h
 exact⟨by rw[←h2];exact ha.has _ h1,h2⟩
theorem CaOk.ext2 {s t:Tr}{c d:List Sp}(h:CaOk s c)(k:CaOk t d)(hl:∀ p x,stE s p x=stE t p x)(hd:∀ x,hasC c x=hasC d x):s=t/\c=d:=by
 refine h.ext k (fun p e=>?_) hd
 have h1:=@QF s h.ord p e.dot e
 have h2:=@QF t k.ord p e.dot e
 rw[hl]at h1
 simp only[and_true]at h1 h2
 exact h1.symm.trans h2
theorem JI {a b:Tr}{ca cb:List Sp}(ha:CaOk a ca)(hb:CaOk b cb):jT a b ca cb=jT b a cb ca/\jC ca cb=jC cb ca:=by
 refine (jT_ok ha hb).ext2 (jT_ok hb ha) (fun p d=>?_) fun d=>?_
 ·rw[ZM ha hb,ZM hb ha]
  cases h:stE a p d<;>cases k:stE b p d<;>simp[jnO]
  exact qXo ((Q0 ha h).2.trans (Q0 hb k).2.symm)
 ·rw[QD ha.ap hb.ap,QD hb.ap ha.ap,Bool.or_comm]
theorem XD {a b c:Tr}{ca cb cc:List Sp}(ha:CaOk a ca)(hb:CaOk b cb)(hc:CaOk c cc):jT (jT a b ca cb) c (jC ca cb) cc=jT a (jT b c cb cc) ca (jC cb cc)/\jC (jC ca cb) cc=jC ca (jC cb cc):=by
 have hab:=jT_ok ha hb
 have hbc:=jT_ok hb hc
 refine (jT_ok hab hc).ext2 (jT_ok ha hbc) (fun p d=>?_) fun d=>?_
 ·rw[ZM hab hc,ZM ha hbc,ZM ha hb,ZM hb hc,QD ha.ap hb.ap,QD hb.ap hc.ap]
  cases h1:stE a p d with
  |none=>
   cases h2:stE b p d with
   |none=>cases h3:stE c p d<;>cases hasC ca d<;>cases hasC cb d<;>cases hasC cc d<;>rfl
   |some y=>
    have g2:=(Q0 hb h2).1
    cases h3:stE c p d with
    |none=>rw[g2];cases hasC ca d<;>cases hasC cc d<;>rfl
    |some z=>rw[g2,(Q0 hc h3).1];cases hasC ca d<;>rfl
  |some x=>
   have g1:=(Q0 ha h1).1
   cases h2:stE b p d with
   |none=>
    cases h3:stE c p d with
    |none=>rw[g1];cases hasC cb d<;>cases hasC cc d<;>rfl
    |some z=>rw[g1,(Q0 hc h3).1];cases hasC cb d<;>rfl
   |some y=>
    have g2:=(Q0 hb h2).1
    cases h3:stE c p d with
    |none=>rw[g1,g2];cases hasC cc d<;>rfl
    |some z=>
     rw[g1,g2,(Q0 hc h3).1]
     simp only[jnO]
     rw[qZc ((Q0 ha h1).2.trans (Q0 hb h2).2.symm) ((Q0 hb h2).2.trans (Q0 hc h3).2.symm)]
 ·rw[QD hab.ap hc.ap,QD ha.ap hb.ap,QD ha.ap hbc.ap,QD hb.ap hc.ap,Bool.or_assoc]
theorem CaOk.nil:CaOk (.mk [] []) []:=⟨V9,fun x h=>by simp[Tr.lvs,Tr.lvsL]at h,JF,fun x h=>by simp[Tr.lvs,Tr.lvsL]at h⟩
theorem JJ {t:Tr}{d:Dt}(h:chkT t d=true):t.right 5=true/\d.right=true/\d∉t.dots:=by
 unfold chkT at h
 rw[Bool.and_eq_true,Bool.and_eq_true]at h
 refine⟨h.1.1,h.1.2,fun hm=>?_⟩
 rw[(Ym h.1.1).2 hm]at h
 simp at h
abbrev knC (t:Tr):List Sp:=ctxOf t.dots
theorem Yn {t:Tr}(h:t.right 5=true):CaOk t (knC t):=by
 have ha:=QM (Q6 h)
 refine YI.1 ?_
 unfold caR
 rw[h,(XW ha ha).2 fun _ hd=>hd];rfl
abbrev tOne (e:En):Tr:=.mk [e] []
theorem KY {e:En}{x:Lf}:x∈(tOne e).lvs []↔x=([],e):=by simp[Tr.lvs,Tr.lvsL]
theorem qXp (e:En):(tOne e).Ord:=Ord.mk' (List.pairwise_singleton _ _) .nil fun _ _ h=>by cases h
theorem qY2 {e:En}{c:List Sp}(he:e.right=true)(hc:Ql c=true)(hh:hasC c e.dot=true):CaOk (tOne e) c:=
 ⟨qXp e,fun x hx=>by rw[KY.1 hx];exact⟨by simp,by simp,he⟩,hc,fun x hx=>by rw[KY.1 hx];exact hh⟩
theorem qY3 {t:Tr}{x:Dt}(h:t.right 5=true):hasC (knC t) x=decide (x∈t.dots):=by
 rw[Bool.eq_iff_iff,Ym h];simp
def kz:List Kd->ByteArray->Nat
 |[],_=>0
 |(k,t) :: ks,q=>if k=q then 1+t.sz else kz ks q
theorem qYf (ks:List Kd)(q:ByteArray)(es:List En):(kidT (.mk es ks) q).sz<=kz ks q/\((∃ t,(q,t)∈ks)->(kidT (.mk es ks) q).sz+1<=kz ks q):=by
 unfold kidT
 simp only[Tr.ks]
 induction ks with
 |nil=>simp[kz,Tr.sz,Tr.szL]
 |cons y ks ih=>
  obtain⟨k,t⟩:=y
  rw[kz,List.find?_cons]
  by_cases h:k=q
  ·subst h;simp;omega
  ·simp only[h,decide_false,if_false]
   refine⟨ih.1,fun ⟨t',hm⟩=>ih.2 ⟨t',?_⟩⟩
   rcases List.mem_cons.1 hm with e|hm
   ·cases e;exact absurd rfl h
   ·exact hm
theorem qZd (c:Nat)(q:ByteArray):∀ (K:List ByteArray),K.Nodup->(K.map fun k=>if q=k then c else 0).sum<=c
 |[],_=>by simp
 |k :: K,h=>by
  obtain⟨h1,h2⟩:=List.nodup_cons.1 h
  rw[List.map_cons,List.sum_cons]
  by_cases e:q=k
  ·have:(K.map fun k=>if q=k then c else 0).sum=0:=by
    have hz:(K.map fun k=>if q=k then c else 0)=K.map fun _=>0:=List.map_congr_left fun x hx=>by
     rw[if_neg];rintro rfl;exact h1 (e▸hx)
    rw[hz];clear hz h1 h2 h
    induction K with
    |nil=>rfl
    |cons _ _ ih=>simp[ih]
   rw[if_pos e,this];omega
  ·rw[if_neg e];have:=qZd c q K h2;omega
theorem qYg {α:Type}(f g:α->Nat):∀ (K:List α),(∀ k∈K,f k<=g k)->(K.map f).sum<=(K.map g).sum
 |[],_=>by simp
 |k :: K,h=>by
  have h1:=h k (by simp)
  have h2:=qYg f g K fun k hk=>h k (by simp[hk])
  simp only[List.map_cons,List.sum_cons];omega
theorem Ke {α:Type}(f g:α->Nat):∀ (K:List α),(K.map fun k=>f k+g k).sum=(K.map f).sum+(K.map g).sum
 |[]=>by simp
 |k :: K=>by
  have h2:=Ke f g K
  simp only[List.map_cons,List.sum_cons]at h2 ⊢;omega
theorem qZe:∀ (ks:List Kd) (K:List ByteArray),K.Nodup->(K.map (kz ks)).sum<=Tr.szL ks
 |[],K,_=>by
  have:K.map (kz [])=K.map fun _=>0:=List.map_congr_left fun _ _=>rfl
  rw[this]
  have:∀ K:List ByteArray,(K.map fun _=>0).sum=0:=fun K=>by induction K with|nil=>rfl|cons _ _ ih=>simp[ih]
  rw[this];exact Nat.zero_le _
 |(k,t) :: ks,K,h=>by
  have h1:=qZe ks K h
  have h2:=qZd (1+t.sz) k K h
  have h3:=qYg (kz ((k,t) :: ks)) (fun q=>(if k=q then 1+t.sz else 0)+kz ks q) K fun q _=>by rw[kz];split<;>omega
  rw[Ke]at h3
  rw[Tr.szL];omega
theorem KZ (f:ByteArray->Tr)(g:ByteArray->Nat):∀ (K:List ByteArray),(∀ k∈K,(f k).sz+1<=g k)->Tr.szL (K.flatMap (joinF f))<=(K.map g).sum
 |[],_=>by simp[Tr.szL]
 |k :: K,h=>by
  have h1:=h k (by simp)
  have h2:=KZ f g K fun k hk=>h k (by simp[hk])
  rw[List.flatMap_cons,List.map_cons,List.sum_cons]
  unfold joinF at h2 ⊢
  split
  ·simp;omega
  ·simp[Tr.szL];omega
theorem qXq {K:List ByteArray}(h:K.Pairwise fun a b=>ltS a b=true):K.Nodup:=
 h.imp fun {a b} hab e=>by subst e;rw[Qz]at hab;cases hab
theorem qY4 (ca cb:List Sp):∀ (n:Nat) (a b:Tr),a.Ord->b.Ord->a.dep<=n->b.dep<=n->(joinT n ca cb a b).sz<=a.sz+b.sz:=by
 intro n
 induction n with
 |zero=>intro a b _ _ h _;have:=Y8 a;omega
 |succ n ih=>
 intro a b ha hb hda hdb
 obtain⟨hk1,hk2⟩:=Xx a b
 have hN:=qXq hk1
 rw[joinT,Tr.sz]
 have h1:=Zq ca cb _ a.es b.es (Nat.le_refl _)
 have h2:=KZ (fun k=>joinT n ca cb (kidT a k) (kidT b k)) (fun k=>kz a.ks k+kz b.ks k) (joinK a b) fun k hk=>by
  have h3:=ih (kidT a k) (kidT b k) (ZE ha k) (ZE hb k) (ZI ha hda (ZA hda hdb hk) k) (ZI hb hdb (ZA hda hdb hk) k)
  have h4:=qYf a.ks k a.es
  have h5:=qYf b.ks k b.es
  have e1:Tr.mk a.es a.ks=a:=by cases a;rfl
  have e2:Tr.mk b.es b.ks=b:=by cases b;rfl
  rw[e1]at h4
  rw[e2]at h5
  obtain⟨t,h|h⟩:=(hk2 k).1 hk
  ·have:=h4.2 ⟨t,h⟩;omega
  ·have:=h5.2 ⟨t,h⟩;omega
 rw[Ke]at h2
 have h3:=qZe a.ks _ hN
 have h4:=qZe b.ks _ hN
 have e1:a.sz=a.es.length+Tr.szL a.ks:=by cases a;rw[Tr.sz];rfl
 have e2:b.sz=b.es.length+Tr.szL b.ks:=by cases b;rw[Tr.sz];rfl
 omega
theorem jT_sz {a b:Tr}{ca cb:List Sp}(ha:CaOk a ca)(hb:CaOk b cb):(jT a b ca cb).sz<=a.sz+b.sz:=qY4 ca cb 6 a b ha.ord hb.ord ha.dep hb.dep
theorem Yo {a b:List (Int×Int)}(ha:runsR none a=true)(hb:runsR none b=true):(byL a b 0).length<=a.length+b.length:=by
 have hp:=List.mergeSort_perm (a++b) fun x y=>decide (x.1<=y.1)
 have hs:((a++b).mergeSort fun x y=>decide (x.1<=y.1)).Pairwise fun x y=>x.1<=y.1:=
  (List.pairwise_mergeSort (fun a b c h k=>by simp at h k ⊢;omega) (fun a b=>by simp;omega) (a++b)).imp fun h=>by simpa using h
 rw[←Xz ha hb hp hs]
 have h:=Ye ((a++b).mergeSort fun x y=>decide (x.1<=y.1)) (((a++b).mergeSort fun x y=>decide (x.1<=y.1)).length)
 rw[List.take_of_length_le (Nat.le_refl _),hp.length_eq,List.length_append]at h
 exact h
theorem qZf (c:List Sp)(h:∀ s∈c,0<=s.dc/\s.dc<4):(partL c 0).length+(partL c 1).length+(partL c 2).length+(partL c 3).length=c.length:=by
 induction c with
 |nil=>rfl
 |cons s c ih=>
  have h1:=ih fun s hs=>h s (by simp[hs])
  have h2:=h s (by simp)
  obtain⟨dc,fr,hi⟩:=s
  simp only at h2
  have h3:dc=0∨dc=1∨dc=2∨dc=3:=by omega
  unfold partL at h1 ⊢
  simp only[List.length_map]at h1 ⊢
  rcases h3 with rfl|rfl|rfl|rfl<;>simp<;>omega
theorem qJj {a b:List Sp}(ha:Ql a=true)(hb:Ql b=true):(jC a b).length<=a.length+b.length:=by
 have h:=XV ha hb 0
 have hdc:∀ {c:List Sp},Ql c=true->∀ s∈c,0<=s.dc/\s.dc<4:=fun {c} hc=>Yh c 0 (by unfold Ql at hc;rw[Bool.and_eq_true]at hc;exact hc.1)
 have e1:=qZf a (hdc ha)
 have e2:=qZf b (hdc hb)
 have e3:=qZf (jC a b) (hdc h)
 have p0:partL (jC a b) 0=byL (partL a 0) (partL b 0) 0:=Zo a b 0 (i:=0) (by omega)
 have p1:partL (jC a b) 1=byL (partL a 1) (partL b 1) 0:=Zo a b 0 (i:=1) (by omega)
 have p2:partL (jC a b) 2=byL (partL a 2) (partL b 2) 0:=Zo a b 0 (i:=2) (by omega)
 have p3:partL (jC a b) 3=byL (partL a 3) (partL b 3) 0:=Zo a b 0 (i:=3) (by omega)
 have u0:(byL (partL a 0) (partL b 0) 0).length<=(partL a 0).length+(partL b 0).length:=Yo (Qs ha (i:=0) (by omega)) (Qs hb (i:=0) (by omega))
 have u1:(byL (partL a 1) (partL b 1) 0).length<=(partL a 1).length+(partL b 1).length:=Yo (Qs ha (i:=1) (by omega)) (Qs hb (i:=1) (by omega))
 have u2:(byL (partL a 2) (partL b 2) 0).length<=(partL a 2).length+(partL b 2).length:=Yo (Qs ha (i:=2) (by omega)) (Qs hb (i:=2) (by omega))
 have u3:(byL (partL a 3) (partL b 3) 0).length<=(partL a 3).length+(partL b 3).length:=Yo (Qs ha (i:=3) (by omega)) (Qs hb (i:=3) (by omega))
 rw[←p0]at u0
 rw[←p1]at u1
 rw[←p2]at u2
 rw[←p3]at u3
 omega
abbrev Kn:=Tr×List Sp
abbrev KOk (x:Kn):Prop:=CaOk x.1 x.2
def jn (x y:Kn):Kn:=(jT x.1 y.1 x.2 y.2,jC x.2 y.2)
theorem K4 {x y:Kn}(hx:KOk x)(hy:KOk y):KOk (jn x y):=jT_ok hx hy
theorem qZg {x y:Kn}(hx:KOk x)(hy:KOk y):jn x y=jn y x:=Prod.ext (JI hx hy).1 (JI hx hy).2
theorem K5 {x y z:Kn}(hx:KOk x)(hy:KOk y)(hz:KOk z):jn (jn x y) z=jn x (jn y z):=Prod.ext (XD hx hy hz).1 (XD hx hy hz).2
theorem qXr {x y z:Kn}(hx:KOk x)(hy:KOk y)(hz:KOk z):jn (jn x y) z=jn (jn x z) y:=by
 rw[K5 hx hy hz,qZg hy hz,K5 hx hz hy]
theorem jn_sz {x y:Kn}(hx:KOk x)(hy:KOk y):(jn x y).1.sz<=x.1.sz+y.1.sz/\(jn x y).2.length<=x.2.length+y.2.length:=⟨jT_sz hx hy,qJj hx.ap hy.ap⟩
theorem K6:∀ (l:List Kn) (z:Kn),KOk z->(∀ x∈l,KOk x)->KOk (l.foldl jn z)
 |[],_,hz,_=>hz
 |x :: l,z,hz,h=>K6 l (jn z x) (K4 hz (h x (by simp))) fun y hy=>h y (by simp[hy])
theorem VG {l m:List Kn}(hp:l.Perm m):∀ z,KOk z->(∀ x∈l,KOk x)->l.foldl jn z=m.foldl jn z:=by
 induction hp with
 |nil=>intro z _ _;rfl
 |cons x _ ih=>intro z hz h;exact ih (jn z x) (K4 hz (h x (by simp))) fun y hy=>h y (by simp[hy])
 |swap x y l=>intro z hz h;simp only[List.foldl_cons];rw[qXr hz (h y (by simp)) (h x (by simp))]
 |trans h1 _ ih1 ih2=>intro z hz h;rw[ih1 z hz h,ih2 z hz fun x hx=>h x (h1.symm.subset hx)]
theorem K7:∀ (l:List Kn) (z:Kn),KOk z->(∀ x∈l,KOk x)->(l.foldl jn z).1.sz<=z.1.sz+(l.map fun x=>x.1.sz).sum/\(l.foldl jn z).2.length<=z.2.length+(l.map fun x=>x.2.length).sum
 |[],_,_,_=>by simp
 |x :: l,z,hz,h=>by
  have h1:=jn_sz hz (h x (by simp))
  have h2:=K7 l (jn z x) (K4 hz (h x (by simp))) fun y hy=>h y (by simp[hy])
  simp only[List.foldl_cons,List.map_cons,List.sum_cons];omega
theorem qJk {x y:Kn}(hx:KOk x)(hy:KOk y)(d:Dt):hasC (jn x y).2 d=(hasC x.2 d||hasC y.2 d):=QD hx.ap hy.ap d
theorem kn_sz {t:Tr}(h:t.sz<=60):(knC t).length<=400:=by
 have hcl:(knC t).length<=4*(t.dots.length+1):=QK t.dots 4
 have hdl:=Zr t
 omega
def incE (t:Tr)(n:Int)(d:Dt):Int:=if chkT t d=false∨n < -1099511627776∨1099511627776<n then 1 else if 24<=t.es.length then 4 else 0
def incT (t:Tr)(n:Int)(d:Dt):Tr:=if incE t n d=0 then .mk [⟨d.dc,d.n,ByteArray.empty,n⟩] [] else .mk [] []
def incC (t:Tr)(n:Int)(d:Dt):List Sp:=if incE t n d=0 then ctxOf [d] else []
theorem K8 (t:Tr)(n:Int)(d:Dt)(ve vk:Value)(w:World)(h:t.rd w w.heap.size ve vk)(hN:t.sz<=90000)(hn:I64 n)(hd:d.Ok) :
  Calls Tryz.prog 27 #[.agg #[ve,vk],.int .i64 n,.agg #[.int .i64 d.dc,.int .i64 d.n]] w (RetCE w (incT t n d) (incC t n d) (incE t n d)):=by
 have HC:Hid (∀ w',Below w.heap.size w w'->t.rd w' w'.heap.size ve vk):=fun w' hb=>Qg hb hb.size _ _ _ h
 have hfit:=qX7 _ _ _ h
 have hel:t.es.length<=140737488355328:=by obtain⟨es,ks⟩:=t;exact hfit.1
 obtain⟨A3,n3,A4,n4,rfl,rfl⟩:=Qk h
 have hb0:=(((Below.refl w.heap.size w).alloc (Nat.le_refl _) (.cells #[.slice A3 t.es.length n3,.slice A4 t.ks.length n4] 25)).alloc (by simp) (.cells #[.int .i64 d.dc,.int .i64 d.n] 52)).alloc (by simp;omega) (.cells #[.slice none 0 0,.slice none 0 0,.slice none 0 0] 29)
 clear h hfit
 go_enter Tryz.func27,Tryz.ntmps27
 go_wp2_with fail
 refine (Vt t d _ _ _ (HC.out _ hb0) hN).mono ?_
 rintro e w1 ⟨rfl,hb1⟩
 have hs1:=hb1.size
 simp only[World.size_alloc]at hs1
 have hB1:Below w.heap.size w w1:=hb0.trans (hb1.mono (by simp;omega))
 have c0:w1.cell? ⟨w.heap.size,0,none⟩=some (.slice A3 t.es.length n3):=by
  rw[hb1.cell (p:=⟨w.heap.size,0,none⟩) (by simp;omega)]
  rw[World.cell?_alloc_lt _ _ _ (by simp;omega),World.cell?_alloc_lt _ _ _ (by simp)];simp
 have d0:w1.cell? ⟨w.heap.size+1,0,none⟩=some (.int .i64 d.dc):=by rw[hb1.cell (p:=⟨w.heap.size+1,0,none⟩) (by simp),World.cell?_alloc_lt _ _ _ (by simp)];simp
 have d1:w1.cell? ⟨w.heap.size+1,1,none⟩=some (.int .i64 d.n):=by rw[hb1.cell (p:=⟨w.heap.size+1,1,none⟩) (by simp),World.cell?_alloc_lt _ _ _ (by simp)];simp
 have hg:w1.heap[w.heap.size+2]?=some (.cells #[.slice none 0 0,.slice none 0 0,.slice none 0 0] 29 (0,0)):=(hb1.block (w.heap.size+2) (by simp)).trans (Qh (by simp))
 have HG:=hid hg
 have k0:w1.cell? ⟨w.heap.size+2,0,none⟩=some (.slice none 0 0):=Qa (i:=0) hg
 have k1:w1.cell? ⟨w.heap.size+2,1,none⟩=some (.slice none 0 0):=Qa (i:=1) hg
 have k2:w1.cell? ⟨w.heap.size+2,2,none⟩=some (.slice none 0 0):=Qa (i:=2) hg
 have z0:=Qb (i:=0) hg
 have z1:=Qb (i:=1) hg
 have z2:=Qb (i:=2) hg
 clear hg hb1
 cases hc:chkT t d
 ·have HE:Hid (incE t n d=1):=by unfold Hid incE;rw[if_pos (.inl hc)]
  rw[show chkI t d=1 by unfold chkI;rw[hc];rfl]
  clear hc
  go_wp2_with fail
  obtain⟨r0,r1,r2,hK,hS⟩:=box3 HG.out (.slice none 0 0) (.slice none 0 0) (.slice none 0 0)
  have hBW:=((hB1.setCell (p:=⟨w.heap.size+2,0,none⟩) (by simp) (.slice none 0 0)).setCell (p:=⟨w.heap.size+2,1,none⟩) (by simp) (.slice none 0 0)).setCell (p:=⟨w.heap.size+2,2,none⟩) (by simp) (.slice none 0 0)
  refine bodyPost_ret (v:=.tuple #[.agg #[.slice none 0 0,.slice none 0 0,.slice none 0 0],.int .i64 1]) (by simp[results,Tryz.results27,go_sem,r0,r1,r2]) rfl ⟨_,_,_,by rw[HE.out],by rw[incT,HE.out];exact Yz _ _,by rw[incC,HE.out];exact SlA.nil,hBW⟩
 rw[show chkI t d=0 by unfold chkI;rw[hc];rfl]
 by_cases h1:n < -1099511627776
 ·have HE:Hid (incE t n d=1):=by unfold Hid incE;rw[if_pos (.inr (.inl h1))]
  clear hc
  go_wp2_with fail
  obtain⟨r0,r1,r2,hK,hS⟩:=box3 HG.out (.slice none 0 0) (.slice none 0 0) (.slice none 0 0)
  have hBW:=((hB1.setCell (p:=⟨w.heap.size+2,0,none⟩) (by simp) (.slice none 0 0)).setCell (p:=⟨w.heap.size+2,1,none⟩) (by simp) (.slice none 0 0)).setCell (p:=⟨w.heap.size+2,2,none⟩) (by simp) (.slice none 0 0)
  refine bodyPost_ret (v:=.tuple #[.agg #[.slice none 0 0,.slice none 0 0,.slice none 0 0],.int .i64 1]) (by simp[results,Tryz.results27,go_sem,r0,r1,r2]) rfl ⟨_,_,_,by rw[HE.out],by rw[incT,HE.out];exact Yz _ _,by rw[incC,HE.out];exact SlA.nil,hBW⟩
 by_cases h2:1099511627776<n
 ·have HE:Hid (incE t n d=1):=by unfold Hid incE;rw[if_pos (.inr (.inr h2))]
  clear hc
  go_wp2_with fail
  obtain⟨r0,r1,r2,hK,hS⟩:=box3 HG.out (.slice none 0 0) (.slice none 0 0) (.slice none 0 0)
  have hBW:=((hB1.setCell (p:=⟨w.heap.size+2,0,none⟩) (by simp) (.slice none 0 0)).setCell (p:=⟨w.heap.size+2,1,none⟩) (by simp) (.slice none 0 0)).setCell (p:=⟨w.heap.size+2,2,none⟩) (by simp) (.slice none 0 0)
  refine bodyPost_ret (v:=.tuple #[.agg #[.slice none 0 0,.slice none 0 0,.slice none 0 0],.int .i64 1]) (by simp[results,Tryz.results27,go_sem,r0,r1,r2]) rfl ⟨_,_,_,by rw[HE.out],by rw[incT,HE.out];exact Yz _ _,by rw[incC,HE.out];exact SlA.nil,hBW⟩
 have hno:¬(chkT t d=false∨n < -1099511627776∨1099511627776<n):=by rw[hc];simp;omega
 by_cases h3:24<=t.es.length
 ·have HE:Hid (incE t n d=4):=by unfold Hid incE;rw[if_neg hno,if_pos h3]
  clear hc hno
  have h3':decide (24<=t.es.length)=true:=by simpa using h3
  go_wp2_with fail
  obtain⟨r0,r1,r2,hK,hS⟩:=box3 HG.out (.slice none 0 0) (.slice none 0 0) (.slice none 0 0)
  have hBW:=((hB1.setCell (p:=⟨w.heap.size+2,0,none⟩) (by simp) (.slice none 0 0)).setCell (p:=⟨w.heap.size+2,1,none⟩) (by simp) (.slice none 0 0)).setCell (p:=⟨w.heap.size+2,2,none⟩) (by simp) (.slice none 0 0)
  refine bodyPost_ret (v:=.tuple #[.agg #[.slice none 0 0,.slice none 0 0,.slice none 0 0],.int .i64 4]) (by simp[results,Tryz.results27,go_sem,r0,r1,r2]) rfl ⟨_,_,_,by rw[HE.out],by rw[incT,HE.out];exact Yz _ _,by rw[incC,HE.out];exact SlA.nil,hBW⟩
 ·have HE:Hid (incE t n d=0):=by unfold Hid incE;rw[if_neg hno,if_neg h3]
  have HDR:=hid (Vu hc)
  clear hc hno
  have h3':decide (24<=t.es.length)=false:=by simpa using h3
  go_wp2_with fail
  refine (qQj [d] _ _ (SlP.oneB (E:=DtE) (x:=d) (cs:=[.int .i64 d.dc,.int .i64 d.n]) ⟨rfl,hd⟩ rfl _ rfl (by simp)) (fun x hx=>by simp at hx;subst hx;exact HDR.out) (by simp)).mono ?_
  rintro e w2 ⟨v2,rfl,ho2,hb2⟩
  obtain⟨A2,c2,rfl⟩:=ho2.shape
  have hs2:=hb2.size
  simp only[World.size_alloc]at hs2
  have hb2':Below w1.heap.size w1 w2:=((Below.refl _ w1).alloc (Nat.le_refl _) _).trans (hb2.mono (by simp))
  have hB2:Below w.heap.size w w2:=hB1.trans (hb2'.mono (by omega))
  have HG2:=hid ((hb2'.block (w.heap.size+2) (by omega)).trans HG.out)
  have e0:w2.cell? ⟨w.heap.size+1,0,none⟩=some (.int .i64 d.dc):=(hb2'.cell (p:=⟨w.heap.size+1,0,none⟩) (by show w.heap.size+1<_;omega)).trans d0
  have e1:w2.cell? ⟨w.heap.size+1,1,none⟩=some (.int .i64 d.n):=(hb2'.cell (p:=⟨w.heap.size+1,1,none⟩) (by show w.heap.size+1<_;omega)).trans d1
  clear k0 k1 k2 z0 z1 z2 c0 d0 d1
  have k0:w2.cell? ⟨w.heap.size+2,0,none⟩=some (.slice none 0 0):=Qa (i:=0) HG2.out
  have k1:w2.cell? ⟨w.heap.size+2,1,none⟩=some (.slice none 0 0):=Qa (i:=1) HG2.out
  have k2:w2.cell? ⟨w.heap.size+2,2,none⟩=some (.slice none 0 0):=Qa (i:=2) HG2.out
  have z0:=Qb (i:=0) HG2.out
  have z1:=Qb (i:=1) HG2.out
  have z2:=Qb (i:=2) HG2.out
  have hlt2:w.heap.size+2<w2.heap.size:=by omega
  have hne2:w.heap.size+2≠w2.heap.size:=by omega
  have HO2:=hid ho2
  clear ho2
  go_wp2_with fail
  obtain⟨r0,r1,r2,hK,hS⟩:=box3 HG2.out (.slice (some ⟨w2.heap.size,0,none⟩) 1 1) (.slice none 0 0) (.slice A2 (ctxOf [d]).length c2)
  have hBW:Below w.heap.size w (((w2.setCell ⟨w.heap.size+2,0,none⟩ (.slice (some ⟨w2.heap.size,0,none⟩) 1 1)).setCell ⟨w.heap.size+2,1,none⟩ (.slice none 0 0)).setCell ⟨w.heap.size+2,2,none⟩ (.slice A2 (ctxOf [d]).length c2)):=((hB2.setCell (by simp) _).setCell (by simp) _).setCell (by simp) _
  clear k0 k1 k2 z0 z1 z2 e0 e1
  generalize (((w2.setCell ⟨w.heap.size+2,0,none⟩ (.slice (some ⟨w2.heap.size,0,none⟩) 1 1)).setCell ⟨w.heap.size+2,1,none⟩ (.slice none 0 0)).setCell ⟨w.heap.size+2,2,none⟩ (.slice A2 (ctxOf [d]).length c2))=W at *
  have q0:(W.alloc (.cells #[.int .i64 d.dc,.int .i64 d.n,.string ⟨#[]⟩,.int .i64 n] 92)).cell? ⟨w.heap.size+1+1,0,none⟩=some (.slice (some ⟨w2.heap.size,0,none⟩) 1 1):=by rw[World.cell?_alloc_lt _ _ _ (by show w.heap.size+2<_;omega)];exact r0
  have q1:(W.alloc (.cells #[.int .i64 d.dc,.int .i64 d.n,.string ⟨#[]⟩,.int .i64 n] 92)).cell? ⟨w.heap.size+1+1,1,none⟩=some (.slice none 0 0):=by rw[World.cell?_alloc_lt _ _ _ (by show w.heap.size+2<_;omega)];exact r1
  have q2:(W.alloc (.cells #[.int .i64 d.dc,.int .i64 d.n,.string ⟨#[]⟩,.int .i64 n] 92)).cell? ⟨w.heap.size+1+1,2,none⟩=some (.slice A2 (ctxOf [d]).length c2):=by rw[World.cell?_alloc_lt _ _ _ (by show w.heap.size+2<_;omega)];exact r2
  refine bodyPost_ret (v:=.tuple #[.agg #[.slice (some ⟨w2.heap.size,0,none⟩) 1 1,.slice none 0 0,.slice A2 (ctxOf [d]).length c2],.int .i64 0]) (by simp[results,Tryz.results27,go_sem,q0,q1,q2]) rfl ⟨_,_,_,by rw[HE.out],?_,?_,hBW.alloc (by omega) _⟩
  ·rw[incT,HE.out,if_pos rfl,ZP]
   refine⟨?_,SlA.nil⟩
   exact SlA.one (x:=(⟨d.dc,d.n,ByteArray.empty,n⟩:En)) (cs:=[.int .i64 d.dc,.int .i64 d.n,.string ByteArray.empty,.int .i64 n]) (e:=92) (z:=(0,0)) ⟨rfl,En.Ok.mk' hd hn⟩ rfl (Qh hS.symm) ⟨by omega,by rw[World.size_alloc];omega⟩
  ·rw[incC,HE.out,if_pos rfl]
   refine (HO2.out.sla (by have:=QK [d] 4;unfold ctxOf Big;simp at this;omega)).up (fun b hb=>(Qi (by have:=hb.2.1;omega)).trans (hK b (by have:=hb.1;simp only[World.size_alloc]at this;omega))) (fun b hb=>⟨by have:=hb.1;simp only[World.size_alloc]at this;omega,by rw[World.size_alloc];have:=hb.2.1;omega⟩) (fun _ _ _ h=>h)
def cSame (a b:List Sp):Bool:=Ql a&&(Ql b&&decide (a=b))
theorem qZj (a b:List Sp)(va vb:Value)(w:World)(ha:SlP w w.heap.size 3 SpE va a)(hb:SlP w w.heap.size 3 SpE vb b)(hN:a.length<=20000)(hN':b.length<=20000) :
  Calls Tryz.prog 71 #[va,vb] w fun e w'=>e=.returned (.bool (cSame a b))/\Below w.heap.size w w':=by
 have HA:=hid ha
 have HB:=hid hb
 obtain⟨A1,c1,rfl,_⟩:=ha
 obtain⟨A2,c2,rfl,_⟩:=hb
 go_enter Tryz.func71,Tryz.ntmps71
 go_wp2_with fail
 refine (ZK a _ w HA.out (by omega)).mono ?_
 rintro e w1 ⟨rfl,hb1⟩
 have hs1:=hb1.size
 cases ra:Ql a
 ·have HR:Hid (cSame a b=false):=by unfold Hid cSame;rw[ra];rfl
  clear ra
  go_wp2_with fail
  go_ret
  exact⟨Qd HR.out.symm,hb1⟩
 have RA:=hid ra
 go_wp2_with fail
 refine (ZK b _ w1 (HB.out.imp hb1 hs1 fun _ _ _ h=>h) (by omega)).mono ?_
 rintro e w2 ⟨rfl,hb2⟩
 have hs2:=hb2.size
 have hB2:Below w.heap.size w w2:=hb1.trans (hb2.mono hs1)
 cases rb:Ql b
 ·have HR:Hid (cSame a b=false):=by unfold Hid cSame;rw[ra,rb];rfl
  clear ra rb
  go_wp2_with fail
  go_ret
  exact⟨Qd HR.out.symm,hB2⟩
 have HR:Hid (cSame a b=decide (a=b)):=by unfold Hid cSame;rw[ra,rb];rfl
 clear ra rb
 go_wp2_with fail
 refine (qZh a b _ _ w2 _ (HA.out.imp hB2 (by omega) fun _ _ _ h=>h) (HB.out.imp hB2 (by omega) fun _ _ _ h=>h)).mono ?_
 rintro e w3 ⟨rfl,q,rfl⟩
 go_wp2_with fail
 go_ret
 exact⟨Qd HR.out.symm,below_drewN hB2 q⟩
noncomputable def kSame (a b:Tr)(ca cb:List Sp):Bool:=caR a ca&&(caR b cb&&(trEq a b&&decide (ca=cb)))
theorem csame_any (ca cb:List Sp)(a b:Tr)(va ka vb kb vca vcb:Value)(w:World)(ha:a.rd w w.heap.size va ka)(hb:b.rd w w.heap.size vb kb)(hca:SlP w w.heap.size 3 SpE vca ca)(hcb:SlP w w.heap.size 3 SpE vcb cb)(hza:a.sz<=4000)(hzb:b.sz<=4000)(hN1:ca.length<=20000)(hN2:cb.length<=20000) :
  Calls Tryz.prog 30 #[.agg #[va,ka,vca],.agg #[vb,kb,vcb]] w fun e w'=>e=.returned (.bool (kSame a b ca cb))/\Below w.heap.size w w':=by
 have HA:Hid (∀ w',Below w.heap.size w w'->a.rd w' w'.heap.size va ka):=fun w' hb=>Qg hb hb.size _ _ _ ha
 have HB:Hid (∀ w',Below w.heap.size w w'->b.rd w' w'.heap.size vb kb):=fun w' hb'=>Qg hb' hb'.size _ _ _ hb
 have HCA:Hid (∀ w',Below w.heap.size w w'->SlP w' w'.heap.size 3 SpE vca ca):=fun w' hb=>hca.imp hb hb.size fun _ _ _ h=>h
 have HCB:Hid (∀ w',Below w.heap.size w w'->SlP w' w'.heap.size 3 SpE vcb cb):=fun w' hb=>hcb.imp hb hb.size fun _ _ _ h=>h
 obtain⟨A1,n1,A2,n2,rfl,rfl⟩:=Qk ha
 obtain⟨A3,n3,A4,n4,rfl,rfl⟩:=Qk hb
 obtain⟨A5,n5,rfl,_⟩:=hca
 obtain⟨A6,n6,rfl,_⟩:=hcb
 have HX:Hid (∀ W,Below (w.heap.size+2) ((w.alloc (.cells #[.slice A1 a.es.length n1,.slice A2 a.ks.length n2,.slice A5 ca.length n5] 29)).alloc (.cells #[.slice A3 b.es.length n3,.slice A4 b.ks.length n4,.slice A6 cb.length n6] 29)) W->(Below w.heap.size w W/\w.heap.size+2<=(W).heap.size/\a.rd W (W).heap.size (.slice A1 a.es.length n1) (.slice A2 a.ks.length n2)/\SlP W (W).heap.size 3 SpE (.slice A5 ca.length n5) ca/\b.rd W (W).heap.size (.slice A3 b.es.length n3) (.slice A4 b.ks.length n4)/\SlP W (W).heap.size 3 SpE (.slice A6 cb.length n6) cb/\(W).cell? ⟨w.heap.size,0,none⟩=some (.slice A1 a.es.length n1)/\(W).cell? ⟨w.heap.size,1,none⟩=some (.slice A2 a.ks.length n2)/\(W).cell? ⟨w.heap.size,2,none⟩=some (.slice A5 ca.length n5)/\(W).cell? ⟨w.heap.size+1,0,none⟩=some (.slice A3 b.es.length n3)/\(W).cell? ⟨w.heap.size+1,1,none⟩=some (.slice A4 b.ks.length n4)/\(W).cell? ⟨w.heap.size+1,2,none⟩=some (.slice A6 cb.length n6))):=fun W hW=>by
  have g0:W.heap[w.heap.size]?=some (.cells #[.slice A1 a.es.length n1,.slice A2 a.ks.length n2,.slice A5 ca.length n5] 29 (0,0)):=(hW.block _ (by omega)).trans ((Qi (by simp)).trans (Qh rfl))
  have g1:W.heap[w.heap.size+1]?=some (.cells #[.slice A3 b.es.length n3,.slice A4 b.ks.length n4,.slice A6 cb.length n6] 29 (0,0)):=(hW.block _ (by omega)).trans (Qh (by simp))
  have hB:Below w.heap.size w W:=(((Below.refl _ w).alloc (Nat.le_refl _) _).alloc (by simp) _).trans (hW.mono (by omega))
  exact⟨hB,by have:=hW.size;simpa using this,HA.out _ hB,HCA.out _ hB,HB.out _ hB,HCB.out _ hB,Qa (i:=0) g0,Qa (i:=1) g0,Qa (i:=2) g0,Qa (i:=0) g1,Qa (i:=1) g1,Qa (i:=2) g1⟩
 clear ha hb
 obtain⟨hB0,hs0,a0,b0,a0',b0',_⟩:=HX.out _ (Below.refl _ _)
 cases h1:caR a ca
 ·have HR:Hid (kSame a b ca cb=false):=by unfold Hid kSame;rw[h1];rfl
  have H1:=hid h1
  clear h1
  go_enter Tryz.func30,Tryz.ntmps30
  go_wp2_with fail
  refine (Qv a ca _ _ _ _ a0 b0 hza hN1).mono ?_
  rw[H1.out]
  rintro e w1 ⟨rfl,hb⟩
  have hbk1:=hid (hb.mono (show w.heap.size+2<=_ by simp))
  clear hb
  obtain⟨hB1,hs1,r1,s1,r1',s1',q0,q1,q2,q3,q4,q5⟩:=HX.out _ hbk1.out
  go_wp2_with fail
  go_ret
  exact⟨Qd HR.out.symm,hB1⟩
 cases h2:caR b cb
 ·have HR:Hid (kSame a b ca cb=false):=by unfold Hid kSame;rw[h1,h2];rfl
  have H1:=hid h1
  have H2:=hid h2
  clear h1 h2
  go_enter Tryz.func30,Tryz.ntmps30
  go_wp2_with fail
  refine (Qv a ca _ _ _ _ a0 b0 hza hN1).mono ?_
  rw[H1.out]
  rintro e w1 ⟨rfl,hb⟩
  have hbk1:=hid (hb.mono (show w.heap.size+2<=_ by simp))
  clear hb
  obtain⟨hB1,hs1,r1,s1,r1',s1',q0,q1,q2,q3,q4,q5⟩:=HX.out _ hbk1.out
  go_wp2_with fail
  refine (Qv b cb _ _ _ w1 r1' s1' hzb hN2).mono ?_
  rw[H2.out]
  rintro e w2 ⟨rfl,hb⟩
  have hbk2:=hid (hbk1.out.trans (hb.mono hs1))
  clear hb q0 q1 q2 q3 q4 q5
  obtain⟨hB2,hs2,r2,s2,r2',s2',q0,q1,q2,q3,q4,q5⟩:=HX.out _ hbk2.out
  go_wp2_with fail
  go_ret
  exact⟨Qd HR.out.symm,hB2⟩
 have ht3:tSame a b=trEq a b:=by unfold tSame;rw[Yk h1,Yk h2];rfl
 have hc3:cSame ca cb=decide (ca=cb):=by unfold cSame;rw[Yl h1,Yl h2];rfl
 cases h3:trEq a b
 ·have HR:Hid (kSame a b ca cb=false):=by unfold Hid kSame;rw[h1,h2,h3];rfl
  have H1:=hid h1
  have H2:=hid h2
  have H3:Hid (tSame a b=false):=ht3.trans h3
  clear h1 h2 h3 ht3 hc3
  go_enter Tryz.func30,Tryz.ntmps30
  go_wp2_with fail
  refine (Qv a ca _ _ _ _ a0 b0 hza hN1).mono ?_
  rw[H1.out]
  rintro e w1 ⟨rfl,hb⟩
  have hbk1:=hid (hb.mono (show w.heap.size+2<=_ by simp))
  clear hb
  obtain⟨hB1,hs1,r1,s1,r1',s1',q0,q1,q2,q3,q4,q5⟩:=HX.out _ hbk1.out
  go_wp2_with fail
  refine (Qv b cb _ _ _ w1 r1' s1' hzb hN2).mono ?_
  rw[H2.out]
  rintro e w2 ⟨rfl,hb⟩
  have hbk2:=hid (hbk1.out.trans (hb.mono hs1))
  clear hb q0 q1 q2 q3 q4 q5
  obtain⟨hB2,hs2,r2,s2,r2',s2',q0,q1,q2,q3,q4,q5⟩:=HX.out _ hbk2.out
  go_wp2_with fail
  refine (tSame_any a b w2 _ _ _ _ r2 r2').mono ?_
  rw[H3.out]
  rintro e w3 ⟨rfl,hb⟩
  have hbk3:=hid (hbk2.out.trans (hb.mono hs2))
  clear hb q0 q1 q2 q3 q4 q5
  obtain⟨hB3,hs3,r3,s3,r3',s3',q0,q1,q2,q3,q4,q5⟩:=HX.out _ hbk3.out
  go_wp2_with fail
  go_ret
  exact⟨Qd HR.out.symm,hB3⟩
 ·have HR:Hid (kSame a b ca cb=decide (ca=cb)):=by unfold Hid kSame;rw[h1,h2,h3];rfl
  have H1:=hid h1
  have H2:=hid h2
  have H3:Hid (tSame a b=true):=ht3.trans h3
  have H4:=hid hc3
  clear h1 h2 h3 ht3 hc3
  go_enter Tryz.func30,Tryz.ntmps30
  go_wp2_with fail
  refine (Qv a ca _ _ _ _ a0 b0 hza hN1).mono ?_
  rw[H1.out]
  rintro e w1 ⟨rfl,hb⟩
  have hbk1:=hid (hb.mono (show w.heap.size+2<=_ by simp))
  clear hb
  obtain⟨hB1,hs1,r1,s1,r1',s1',q0,q1,q2,q3,q4,q5⟩:=HX.out _ hbk1.out
  go_wp2_with fail
  refine (Qv b cb _ _ _ w1 r1' s1' hzb hN2).mono ?_
  rw[H2.out]
  rintro e w2 ⟨rfl,hb⟩
  have hbk2:=hid (hbk1.out.trans (hb.mono hs1))
  clear hb q0 q1 q2 q3 q4 q5
  obtain⟨hB2,hs2,r2,s2,r2',s2',q0,q1,q2,q3,q4,q5⟩:=HX.out _ hbk2.out
  go_wp2_with fail
  refine (tSame_any a b w2 _ _ _ _ r2 r2').mono ?_
  rw[H3.out]
  rintro e w3 ⟨rfl,hb⟩
  have hbk3:=hid (hbk2.out.trans (hb.mono hs2))
  clear hb q0 q1 q2 q3 q4 q5
  obtain⟨hB3,hs3,r3,s3,r3',s3',q0,q1,q2,q3,q4,q5⟩:=HX.out _ hbk3.out
  go_wp2_with fail
  refine (qZj ca cb _ _ w3 s3 s3' hN1 hN2).mono ?_
  rw[H4.out]
  rintro e w4 ⟨rfl,hb⟩
  go_wp2_with fail
  go_ret
  exact⟨Qd HR.out.symm,hB3.trans (hb.mono (by omega))⟩
theorem qXs {x y:Kn}(hx:KOk x)(hy:KOk y):kSame x.1 y.1 x.2 y.2=true↔x=y:=by
 unfold kSame
 rw[YI.2 hx,YI.2 hy,Bool.true_and,Bool.true_and,Bool.and_eq_true,Yp,decide_eq_true_eq]
 exact⟨fun h=>Prod.ext h.1 h.2,fun h=>by subst h;simp⟩
def sumP (es:List En):Int:=(es.map (·.v)).sum
theorem qZk:∀ (es:List En) (s:Int) (m:Nat),(∀ e∈es,-1099511627776<=e.v/\e.v<=1099511627776)->-(1099511627776*(m:Int))<=s->s<=1099511627776*(m:Int)->m+es.length<=1000 ->
  es.foldl (fun s e=>wrap64 (s+e.v)) s=s+sumP es/\-(1099511627776*((m+es.length:Nat):Int))<=s+sumP es/\s+sumP es<=1099511627776*((m+es.length:Nat):Int)
 |[],s,m,_,h1,h2,_=>by simp[sumP];omega
 |e :: es,s,m,he,h1,h2,h3=>by
  have hv:=he e (by simp)
  rw[List.length_cons]at h3
  have hw:wrap64 (s+e.v)=s+e.v:=by unfold wrap64;omega
  have h4:=qZk es (s+e.v) (m+1) (fun x hx=>he x (by simp[hx])) (by push_cast;omega) (by push_cast;omega) (by omega)
  have hs:sumP (e :: es)=e.v+sumP es:=by simp[sumP]
  rw[List.foldl_cons,hw,h4.1,hs,List.length_cons]
  have e1:m+1+es.length=m+(es.length+1):=by omega
  rw[e1]at h4
  refine⟨by omega,?_,?_⟩
  ·have:=h4.2.1;omega
  ·have:=h4.2.2;omega
theorem qZl {es:List En}(he:∀ e∈es,-1099511627776<=e.v/\e.v<=1099511627776)(hl:es.length<=100):sumE es=sumP es/\-109951162777600<=sumP es/\sumP es<=109951162777600:=by
 have h:=qZk es 0 0 he (by omega) (by omega) (by omega)
 unfold sumE
 refine⟨by rw[h.1];omega,?_,?_⟩
 ·have:=h.2.1;omega
 ·have:=h.2.2;omega
theorem Yq {c:List Sp}{x:En}(h:cHas c x.dot=false):stayL c x=[x]:=by unfold stayL;rw[h];rfl
theorem JM (x:En)(es:List En):sumP (x :: es)=x.v+sumP es:=by simp[sumP]
theorem JO (ca cb:List Sp):∀ (a:List En),(∀ x∈a,cHas cb x.dot=false)->entL ca cb a []=a
 |[],_=>by rw[entL]
 |x :: a,h=>by rw[entL,Yq (h x (by simp)),JO ca cb a fun y hy=>h y (by simp[hy])];rfl
theorem Vc (ca cb:List Sp)(y:En)(hy:cHas ca y.dot=false):∀ (a:List En),(∀ x∈a,cHas cb x.dot=false)->(∀ x∈a,x.dot≠y.dot)->sumP (entL ca cb a [y])=sumP a+y.v
 |[],_,_=>by rw[entL,Yq hy,entL];simp[sumP]
 |x :: a,h,hn=>by
  rw[entL]
  cases h1:x.dot.lt y.dot
  ·cases h2:y.dot.lt x.dot
   ·exact absurd (YY h1 h2) (hn x (by simp))
   ·rw[if_neg (by simp),if_pos rfl,Yq hy,JO ca cb (x :: a) h]
    simp[sumP];omega
  ·rw[if_pos rfl,Yq (h x (by simp))]
   have:=Vc ca cb y hy a (fun z hz=>h z (by simp[hz])) fun z hz=>hn z (by simp[hz])
   rw[List.singleton_append,JM,JM,this];omega
def dd (k:Nat):Dt:=⟨((k % 4:Nat):Int),1099511627776-(k:Int)⟩
def cntX (k:Nat)(n:Int):Kn:=(tOne ⟨((k % 4:Nat):Int),1099511627776-(k:Int),ByteArray.empty,n⟩,ctxOf [dd k])
def cntL (l:List Int):List Kn:=l.mapIdx cntX
theorem Q3 (l:List Int):(cntL l).length=l.length:=by unfold cntL;simp
theorem Kh {l:List Int}{k:Nat}{n:Int}(h:l[k]?=some n):(cntL l)[k]?=some (cntX k n):=by unfold cntL;rw[List.getElem?_mapIdx,h];rfl
theorem qXt {l:List Int}{x:Kn}(h:x∈cntL l):∃ k n,l[k]?=some n/\x=cntX k n:=by
 obtain⟨k,hk⟩:=List.getElem?_of_mem h
 have hlt:k<l.length:=by rw[←Q3];exact (List.getElem?_eq_some_iff.1 hk).1
 have h1:=List.getElem?_eq_getElem hlt
 rw[Kh h1]at hk
 exact⟨k,_,h1,by cases hk;rfl⟩
def ZB (n:Int):Prop:=-2147483648<=n/\n<=2147483647
theorem dd_ne {j k:Nat}(h:j<k):dd k≠dd j:=fun e=>by
 have:=congrArg Dt.n e
 simp only[dd]at this
 omega
theorem qYh {d:Dt}(hd:d.right=true)(x:Dt):hasC (ctxOf [d]) x=decide (x=d):=by
 have hr1:∀ x∈[d],x.right=true:=fun x hx=>by simp at hx;subst hx;exact hd
 rw[Bool.eq_iff_iff,decide_eq_true_eq]
 constructor
 ·intro h;rw[ZG hr1 (XB h)]at h;simpa using h
 ·rintro rfl;rw[ZG hr1 hd];simp
theorem qZm {d:Dt}{n:Int}(hd:d.right=true)(hn:ZB n):(⟨d.dc,d.n,ByteArray.empty,n⟩:En).right=true:=by
 unfold ZB at hn
 unfold En.right En.dot;simp[hd];omega
theorem cn_ok {t:Tr}{k:Nat}{n:Int}(hc:chkT t (dd k)=true)(hn:ZB n):KOk (cntX k n)/\∀ x,hasC (cntX k n).2 x=decide (x=dd k):=by
 obtain⟨g1,g2,g3⟩:=JJ hc
 have hr1:∀ x∈[dd k],x.right=true:=fun x hx=>by simp at hx;subst hx;exact g2
 have he:(⟨((k % 4:Nat):Int),1099511627776-(k:Int),ByteArray.empty,n⟩:En).right=true:=qZm (d:=dd k) g2 hn
 exact⟨qY2 he (QM hr1) (by show hasC (ctxOf [dd k]) (dd k)=true;rw[qYh g2];simp),qYh g2⟩
theorem qJl {t:Tr}{k:Nat}{n:Int}(hc:chkT t (dd k)=true)(hn:ZB n)(hl:t.es.length<24):incE t n (dd k)=0/\incT t n (dd k)=(cntX k n).1/\incC t n (dd k)=(cntX k n).2:=by
 unfold ZB at hn
 have hno:¬(chkT t (dd k)=false∨n < -1099511627776∨1099511627776<n):=by rw[hc];simp;omega
 have hE:incE t n (dd k)=0:=by unfold incE;rw[if_neg hno,if_neg (by omega)]
 exact⟨hE,by unfold incT;rw[if_pos hE];rfl,by unfold incC;rw[if_pos hE];rfl⟩
theorem qY5 {J:Kn}(hJ:KOk J){k:Nat}{n:Int}(hx:KOk (cntX k n))(hh:∀ x,hasC (cntX k n).2 x=decide (x=dd k))(hd:hasC J.2 (dd k)=false):sumP (jn J (cntX k n)).1.es=sumP J.1.es+n:=by
 have hes:(jn J (cntX k n)).1.es=entL J.2 (cntX k n).2 J.1.es [⟨((k % 4:Nat):Int),1099511627776-(k:Int),ByteArray.empty,n⟩]:=rfl
 have hdot:(⟨((k % 4:Nat):Int),1099511627776-(k:Int),ByteArray.empty,n⟩:En).dot=dd k:=rfl
 have hin:∀ x∈J.1.es,x.dot≠dd k:=fun x hx e=>by
  have:=hJ.has ([],x) (Jy.2 hx)
  simp only at this
  rw[e,hd]at this;cases this
 rw[hes]
 exact Vc _ _ _ (by rw[Yi hJ.ap,hdot,hd]) J.1.es (fun x hx'=>by rw[Yi hx.ap,hh];simp[hin x hx']) fun x hx' e=>hin x hx' (by rw[e,hdot])
theorem cn_go {t:Tr}(l:List Int)(hr:t.right 5=true)(hc:∀ k,k<l.length->chkT t (dd k)=true)(hn:∀ n∈l,ZB n):∀ k,k<=l.length->KOk (((cntL l).take k).foldl jn (t,knC t)) /\
  (∀ d,hasC (((cntL l).take k).foldl jn (t,knC t)).2 d=true->d∈t.dots∨∃ j,j<k/\d=dd j)/\sumP (((cntL l).take k).foldl jn (t,knC t)).1.es=sumP t.es+(l.take k).sum
 |0,_=>⟨Yn hr,fun d hd=>by
   simp only[List.take_zero,List.foldl_nil]at hd
   rw[qY3 hr]at hd;exact .inl (of_decide_eq_true hd),by simp⟩
 |k+1,hk=>by
  obtain⟨h1,h2,h3⟩:=cn_go l hr hc hn k (by omega)
  have hlt:k<l.length:=by omega
  have hx:=List.getElem?_eq_getElem hlt
  have hsn:=hn _ (List.mem_of_getElem? hx)
  obtain⟨o1,o2⟩:=cn_ok (hc k hlt) hsn
  have e1:(cntL l).take (k+1)=(cntL l).take k++[cntX k l[k]]:=by rw[List.take_add_one,Kh hx];rfl
  have e2:l.take (k+1)=l.take k++[l[k]]:=by rw[List.take_add_one,hx];rfl
  rw[e1,e2,List.foldl_append,List.sum_append]
  simp only[List.foldl_cons,List.foldl_nil,List.sum_cons,List.sum_nil]
  generalize ((cntL l).take k).foldl jn (t,knC t)=J at h1 h2 h3
  have hno:hasC J.2 (dd k)=false:=by
   cases hh:hasC J.2 (dd k)
   ·rfl
   ·rcases h2 _ hh with h|⟨j,hj,e⟩
    ·exact absurd h (JJ (hc k hlt)).2.2
    ·exact absurd e (dd_ne hj)
  refine⟨K4 h1 o1,fun d hd=>?_,by rw[qY5 h1 o1 o2 hno,h3];omega⟩
  rw[qJk h1 o1,Bool.or_eq_true,o2,decide_eq_true_eq]at hd
  rcases hd with hd|rfl
  ·rcases h2 d hd with h|⟨j,hj,e⟩
   ·exact .inl h
   ·exact .inr ⟨j,by omega,e⟩
  ·exact .inr ⟨k,by omega,rfl⟩
theorem qYi {t:Tr}{l:List Int}(hc:∀ k,k<l.length->chkT t (dd k)=true)(hn:∀ n∈l,ZB n):∀ x∈cntL l,KOk x/\x.1.sz=1/\x.2.length<=8:=fun x hx=>by
 obtain⟨k,n,hk,rfl⟩:=qXt hx
 have hlt:=(List.getElem?_eq_some_iff.1 hk).1
 have s4:(ctxOf [dd k]).length<=4*([dd k].length+1):=QK _ 4
 exact⟨(cn_ok (hc k hlt) (hn n (List.mem_of_getElem? hk))).1,by simp[cntX,Tr.sz,Tr.szL],by show (ctxOf [dd k]).length<=8;simpa using s4⟩
theorem X0 {α:Type}(f:α->Nat)(c:Nat):∀ (l:List α),(∀ x∈l,f x<=c)->(l.map f).sum<=l.length*c
 |[],_=>by simp
 |x :: l,h=>by
  have h1:=X0 f c l fun y hy=>h y (by simp[hy])
  have h2:=h x (by simp)
  simp only[List.map_cons,List.sum_cons,List.length_cons,Nat.add_mul];omega
theorem qZn {t:Tr}{m:List Kn}(hr:t.right 5=true)(hz:t.sz<=60)(hm:∀ x∈m,KOk x/\x.1.sz=1/\x.2.length<=8)(hl:m.length<=8):KOk (m.foldl jn (t,knC t))/\(m.foldl jn (t,knC t)).1.sz<=68/\(m.foldl jn (t,knC t)).2.length<=500:=by
 have h1:=K7 m (t,knC t) (Yn hr) fun x hx=>(hm x hx).1
 have h2:=X0 (fun x:Kn=>x.1.sz) 1 m fun x hx=>by rw[(hm x hx).2.1];exact Nat.le_refl _
 have h3:=X0 (fun x:Kn=>x.2.length) 8 m fun x hx=>(hm x hx).2.2
 have h4:=kn_sz (t:=t) hz
 simp only at h1
 exact⟨K6 m _ (Yn hr) fun x hx=>(hm x hx).1,by omega,by omega⟩
theorem qJm (l:List Int)(hn:∀ n∈l,ZB n):-2147483648*(l.length:Int)<=l.sum/\l.sum<=2147483647*(l.length:Int):=by
 induction l with
 |nil=>simp
 |cons n l ih=>
  have h1:=ih fun x hx=>hn x (by simp[hx])
  have h2:=hn n (by simp)
  unfold ZB at h2
  rw[List.sum_cons,List.length_cons];push_cast;omega
theorem qXu {t:Tr}{l:List Int}(hr:t.right 5=true)(hc:∀ k,k<l.length->chkT t (dd k)=true)(hn:∀ n∈l,ZB n)(hz:t.sz<=60)(hl:l.length<=8)(he:t.es.length<24) :
  ((cntL l).reverse.foldl jn (t,knC t))=((cntL l).foldl jn (t,knC t))/\valT ((cntL l).foldl jn (t,knC t)).1=sumE t.es+l.sum/\kSame ((cntL l).foldl jn (t,knC t)).1 ((cntL l).foldl jn (t,knC t)).1 ((cntL l).foldl jn (t,knC t)).2 ((cntL l).foldl jn (t,knC t)).2=true:=by
 have hall:=qYi hc hn
 have hk:=Yn hr
 have hperm:=VG (List.reverse_perm (cntL l)) (t,knC t) hk fun x hx=>(hall x (List.mem_reverse.1 hx)).1
 obtain⟨h1,h2,h3⟩:=cn_go l hr hc hn l.length (Nat.le_refl _)
 rw[←Q3,List.take_of_length_le (Nat.le_refl _),Q3,List.take_of_length_le (Nat.le_refl _)]at h3
 obtain⟨k1,k2,k3⟩:=qZn (m:=cntL l) hr hz hall (by rw[Q3];exact hl)
 refine⟨hperm,?_,(qXs k1 k1).2 rfl⟩
 have hbd:∀ {A:Tr}{c:List Sp},CaOk A c->∀ e∈A.es,-1099511627776<=e.v/\e.v<=1099511627776:=fun {A c} hA e he=>by
  have:=(hA.leaf ([],e) (Jy.2 he)).2.2
  unfold En.right at this;simp at this;omega
 have e1:=es_sz t
 have e2:=es_sz ((cntL l).foldl jn (t,knC t)).1
 have p1:=qZl (hbd hk) (by omega)
 have p2:=qZl (hbd k1) (by omega)
 unfold valT
 rw[(JG k1.ord).2 k1.leaf,if_pos rfl,p2.1,h3,p1.1]
def kindB (k:ByteArray):Int:=match k.data.toList with
 |[]=>0
 |b :: _=>if b=102 then 1 else if b=115 then 2 else if b=99 then 3 else if b=114 then 4 else if b=109 then 5 else 0
def qJn (k:ByteArray):Bool:=decide (30<k.size)||decide (kindB k=0)
def noMap (k:ByteArray):Bool:=!decide (kindB k=5)
def pathI (p:List ByteArray):Int:=if p.length<1∨3<p.length∨p.any qJn=true then 1 else if p.dropLast.any noMap then 6 else 0
def lastK (p:List ByteArray):ByteArray:=(p[p.length-1]?).getD ByteArray.empty
def actB (a k:Int):Bool:=if a=1∨a=2 then decide (k=1) else if a=3∨a=4 then decide (k=2) else if a=5 then decide (k=3) else if a=6 then decide (k=4) else decide (a=7)
def opTxt (o:Opr):Bool:=if o.act=3∨o.act=4 then keyB o.s else if o.act=6 then decide (o.s.size<=30) else decide (o.s.size=0)
def opNum (o:Opr):Bool:=if o.act=5 then decide (-1099511627776<=o.n/\o.n<=1099511627776) else decide (o.n=0)
theorem EnE.mk' {d:Dt}(hd:d.Ok):EnE (⟨d.dc,d.n,ByteArray.empty,0⟩:En) [.int .i64 d.dc,.int .i64 d.n,.string ByteArray.empty,.int .i64 0]:=⟨rfl,En.Ok.mk' hd ⟨by decide,by decide⟩⟩
structure OpOk (o:Opr):Prop where
 path:pathI o.path=0
 act:actB o.act (kindB (lastK o.path))=true
 txt:opTxt o=true
 num:opNum o=true
theorem z_new {w1 w7:World}{a:Array Value}{e:TypeId}(hb:Below (w1.alloc (.cells a e (0,0))).heap.size (w1.alloc (.cells a e (0,0))) w7):w7.heap[w1.heap.size]?=some (.cells a e (0,0)):=(hb.block _ (by simp)).trans (Qh rfl)
theorem qZo {w1 w7:World}{a:Array Value}{e:TypeId}(hb:Below (w1.alloc (.cells a e (0,0))).drew.heap.size (w1.alloc (.cells a e (0,0))).drew w7):w7.heap[w1.heap.size]?=some (.cells a e (0,0)):=(hb.block _ (by simp)).trans (Qh (w:=w1) rfl)
theorem awk_E:incE (.mk [] []) 5 ⟨1,1⟩=0:=by kernel_rfl
theorem Zc (w:World):Calls Tryz.prog 21 #[] w fun e w'=>e=.returned (.bool true)/\Below w.heap.size w w':=by
 have hb0:=(Below.refl w.heap.size w).alloc (Nat.le_refl _) (.cells #[.int .i64 1,.int .i64 1] 52)
 go_enter Tryz.func21,Tryz.ntmps21
 go_wp2_with fail
 refine (K8 (.mk [] []) 5 ⟨1,1⟩ _ _ _ Ko (by simp[Tr.sz,Tr.szL]) ⟨by omega,by omega⟩ ⟨⟨by decide,by decide⟩,⟨by decide,by decide⟩⟩).mono ?_
 rintro e w1 ⟨ve,vk,vc,rfl,hrd,hsc,hb1⟩
 rw[awk_E]
 have hv:valT (incT (.mk [] []) 5 ⟨1,1⟩)=5:=by kernel_rfl
 have HV:=hid hv
 clear hv
 have HT1:Hid (incT (.mk [] []) 5 ⟨1,1⟩=.mk [⟨1,1,ByteArray.empty,5⟩] []):=by unfold Hid;rw[incT,awk_E];rfl
 have HC1:Hid (incC (.mk [] []) 5 ⟨1,1⟩=ctxOf [⟨1,1⟩]):=by unfold Hid;rw[incC,awk_E];rfl
 generalize incT (.mk [] []) 5 ⟨1,1⟩=T at *
 generalize incC (.mk [] []) 5 ⟨1,1⟩=C at *
 obtain⟨Ae,ne,Ak,nk,rfl,rfl⟩:=Qp hrd
 obtain⟨Ac,nc,rfl⟩:=hsc.shape
 have hs1:=hb1.size
 simp only[World.size_alloc]at hs1
 have hB1:Below w.heap.size w w1:=hb0.trans (hb1.mono (by simp))
 have d0:w1.cell? ⟨w.heap.size,0,none⟩=some (.int .i64 1):=by rw[hb1.cell (p:=⟨w.heap.size,0,none⟩) (by simp)];simp
 have d1:w1.cell? ⟨w.heap.size,1,none⟩=some (.int .i64 1):=by rw[hb1.cell (p:=⟨w.heap.size,1,none⟩) (by simp)];simp
 have HT:Hid (∀ w',Below w1.heap.size w1 w'->T.rd w' w'.heap.size (.slice Ae T.es.length ne) (.slice Ak T.ks.length nk)):=fun w' hb=>YN hrd (fun b hb=>hb.2) hb
 have HCt:Hid (∀ w',Below w1.heap.size w1 w'->SlP w' w'.heap.size 3 SpE (.slice Ac C.length nc) C):=fun w' hb=>hsc.slp (fun b hb=>hb.2) hb
 have HSM:Hid ((trEq T (Zv [([],⟨1,1,ByteArray.empty,5⟩)])&&decide (C=ctxBy [] [⟨1,1,1⟩] 0))=true):=by
  unfold Hid
  rw[HT1.out,HC1.out,Xd,qYx (d:=⟨1,1⟩) (by decide)]
  simp[trEq]
 have HB:Hid (∀ w',Below (w1.heap.size+1) (w1.alloc (.cells #[.slice Ae T.es.length ne,.slice Ak T.ks.length nk,.slice Ac C.length nc] 29)) w'->Below w.heap.size w w'/\Below w1.heap.size w1 w'/\(w'.cell? ⟨w.heap.size,0,none⟩=some (.int .i64 1)/\w'.cell? ⟨w.heap.size,1,none⟩=some (.int .i64 1)/\w'.cell? ⟨w1.heap.size,0,none⟩=some (.slice Ae T.es.length ne)/\w'.cell? ⟨w1.heap.size,1,none⟩=some (.slice Ak T.ks.length nk)/\w'.cell? ⟨w1.heap.size,2,none⟩=some (.slice Ac C.length nc))):=fun w' hb=>by
  have hB:Below w1.heap.size w1 w':=((Below.refl _ w1).alloc (Nat.le_refl _) _).trans (hb.mono (by omega))
  refine⟨hB1.trans (hB.mono (by omega)),hB,?_,?_,?_,?_,?_⟩
  ·rw[hB.cell (p:=⟨w.heap.size,0,none⟩) (by show w.heap.size<_;omega)];exact d0
  ·rw[hB.cell (p:=⟨w.heap.size,1,none⟩) (by show w.heap.size<_;omega)];exact d1
  ·rw[hb.cell (p:=⟨w1.heap.size,0,none⟩) (by simp),World.cell?_alloc_new];rfl
  ·rw[hb.cell (p:=⟨w1.heap.size,1,none⟩) (by simp),World.cell?_alloc_new];rfl
  ·rw[hb.cell (p:=⟨w1.heap.size,2,none⟩) (by simp),World.cell?_alloc_new];rfl
 have hne1:w.heap.size<w1.heap.size:=by omega
 clear hrd hsc
 go_upto_region 3 with (fail)
 go_region_held3 (fun w'=>w'.cell? ⟨w.heap.size,0,none⟩=some (.int .i64 1)/\w'.cell? ⟨w.heap.size,1,none⟩=some (.int .i64 1)/\w'.cell? ⟨w1.heap.size,0,none⟩=some (.slice Ae T.es.length ne)/\w'.cell? ⟨w1.heap.size,1,none⟩=some (.slice Ak T.ks.length nk)/\w'.cell? ⟨w1.heap.size,2,none⟩=some (.slice Ac C.length nc))
  (first|go_keep|exact (HB.out _ hb4.out).2.2|exact (HB.out _ hb3.out).2.2|exact (HB.out _ hb2.out).2.2)
  (first
      |(go_at_call 29;go_loud ((refine (XE T _ _ _ (HT.out _ (((Below.refl _ w1).alloc (Nat.le_refl _) _).drew))).mono ?_);rw[HV.out];rintro e w2 ⟨rfl,hb⟩;have hb2:=hid (((Below.refl (w1.heap.size+1) (w1.alloc (.cells #[.slice Ae T.es.length ne,.slice Ak T.ks.length nk,.slice Ac C.length nc] 29))).drew).trans (hb.mono (by simp)))))
      |(go_at_call 60;go_loud ((refine (Vp [] ⟨1,1,ByteArray.empty,5⟩ [] _ _ w2 ⟨⟨by decide,by decide⟩,⟨by decide,by decide⟩,⟨by decide,by decide⟩,by simp[Big]⟩ SlP.nil SlP.nil (by simp) (fun _ h=>by cases h) (fun s hs=>by simp at hs;subst hs;decide)).mono ?_);rintro e w3 ⟨ve3,vk3,vc3,rfl,hrd3,hsc3,hb⟩;obtain⟨A5,n5,A6,n6,hv5,hv6⟩:=Qp hrd3;subst hv5;subst hv6;obtain⟨A7,n7,hv7⟩:=hsc3.shape;subst hv7;have hrd4:=hid (YN hrd3 (fun b hb=>hb.2) (Below.refl _ _));have hsc4:=hid (hsc3.slp (fun b hb=>hb.2) (Below.refl _ _));clear hrd3 hsc3;have hb3:=hid (hb2.out.trans (hb.mono (by have:=hb2.out.size;simpa using this)))))
      |(go_at_call 15;go_loud ((refine (Kj T _ C _ _ _ _ _ _ _ w3 (HT.out _ (HB.out _ hb3.out).2.1) hrd4.out (HCt.out _ (HB.out _ hb3.out).2.1) hsc4.out).mono ?_);rw[HSM.out];rintro e w4 ⟨rfl,hb⟩;have hb4:=hid (hb3.out.trans (hb.mono (by have:=hb3.out.size;simpa using this))))))
 go_wp2_with fail
 go_ret
 exact⟨rfl,(HB.out _ hb4.out).1⟩
theorem Kk (t:Tr)(w:World)(ve vk:Value)(h:t.rd w w.heap.size ve vk) :
  Calls Tryz.prog 22 #[.agg #[ve,vk]] w fun e w'=>e=.returned (.bool (smlB t 60))/\Below w.heap.size w w':=by
 have HC:Hid (∀ w',Below w.heap.size w w'->t.rd w' w'.heap.size ve vk):=fun w' hb=>Qg hb hb.size _ _ _ h
 obtain⟨A3,n3,A4,n4,rfl,rfl⟩:=Qk h
 have hb0:=(Below.refl w.heap.size w).alloc (Nat.le_refl _) (.cells #[.slice A3 t.es.length n3,.slice A4 t.ks.length n4] 25)
 clear h
 go_enter Tryz.func22,Tryz.ntmps22
 go_wp2_with fail
 refine (Js t _ _ _ 60 (HC.out _ hb0) (by omega) (by omega)).mono ?_
 rintro e w1 ⟨rfl,hb1⟩
 rw[show decide (0<=t.room 60 8)=smlB t 60 from rfl]
 go_wp2_with fail
 go_ret
 exact⟨rfl,hb0.trans (hb1.mono (by simp))⟩
def BoxG (m:Nat)(V:World)(e:TypeId)(T:Tr)(c:List Sp)(s:Value)(wx:World):Prop:=
 ∃ g,s=.pointer (some ⟨g,0,none⟩)/\m<=g/\∃ u v x,wx.heap[g]?=some (.cells #[u,v,x] e (0,0))/\T.rda wx (fun b=>m<=b/\b<wx.heap.size) u v/\SlA wx (fun b=>m<=b/\b<wx.heap.size) 3 SpE x c/\Below m V wx
theorem X1 {m N:Nat}{V w7:World}{e:TypeId}{T:Tr}{c:List Sp}{u v x:Value}(hb:Below m V w7)(hm:m<=w7.heap.size)(hN:m<=N)(hr:T.rda w7 (fun b=>N<=b/\b<w7.heap.size) u v)(hc:SlA w7 (fun b=>N<=b/\b<w7.heap.size) 3 SpE x c) :
  BoxG m V e T c (.pointer (some ⟨w7.heap.size,0,none⟩)) (w7.alloc (.cells #[u,v,x] e)):=
 ⟨w7.heap.size,rfl,hm,u,v,x,Qh rfl,Qw (fun b hb=>Qi hb.2) (fun b hb=>⟨by omega,by rw[World.size_alloc];omega⟩) _ _ _ hr,hc.up (fun b hb=>Qi hb.2) (fun b hb=>⟨by omega,by rw[World.size_alloc];omega⟩) (fun _ _ _ h=>h),hb.alloc hm _⟩
theorem X2 {m N g:Nat}{V w7:World}{e:TypeId}{T:Tr}{c:List Sp}{u v x a b d:Value}(hbx:w7.heap[g]?=some (.cells #[a,b,d] e (0,0)))(hb:Below m V w7)(hg:m<=g)(hgN:g<N)(hr:T.rda w7 (fun b=>N<=b/\b<w7.heap.size) u v)(hc:SlA w7 (fun b=>N<=b/\b<w7.heap.size) 3 SpE x c) :
  BoxG m V e T c (.pointer (some ⟨g,0,none⟩)) (((w7.setCell ⟨g,0,none⟩ u).setCell ⟨g,1,none⟩ v).setCell ⟨g,2,none⟩ x):=by
 obtain⟨_,_,_,hK,hS⟩:=box3 hbx u v x
 have hW:=Qe (i:=2) (Qe (i:=1) (Qe (i:=0) hbx u) v) x
 exact⟨g,rfl,hg,u,v,x,by simpa using hW,Qw (fun b hb=>hK b (by omega)) (fun b hb=>⟨by omega,by rw[hS];exact hb.2⟩) _ _ _ hr,hc.up (fun b hb=>hK b (by omega)) (fun b hb=>⟨by omega,by rw[hS];exact hb.2⟩) (fun _ _ _ h=>h),((hb.setCell hg _).setCell hg _).setCell hg _⟩
end Go.Proofs.YtidebdbjekijkaaGreat
