/- What the laws need. No condition but those that each lemma states. -/
import Derived.Test.YtbcoelggdikipaaGreatUq8
import Derived.Test.YtbcoelggdikipaaGreatUq9
import Derived.Test.YtbcoelggdikipaaGreatUq10
import Derived.Test.YtbcoelggdikipaaGreatUq5
import Derived.Test.YtbcoelggdikipaaGreatUq2
import Derived.Test.YtbcoelggdikipaaGreatUq7
set_option maxRecDepth 100000
set_option maxHeartbeats 8000000
set_option linter.unusedSimpArgs false
namespace Go.Proofs.YtbcoelggdikipaaGreat
open Go.RowKit
def mxI (p q:Int):Int:=max p q
def mnI (p q:Int):Int:=min p q
def meetL:List (Int×Int)->List (Int×Int)->List (Int×Int)
 |x :: a,y :: b=>(if mxI x.1 y.1<=mnI x.2 y.2 then [(mxI x.1 y.1,mnI x.2 y.2)] else [])++(if x.2<y.2 then meetL a (y :: b) else meetL (x :: a) b)
 |[],_=>[]
 |_ :: _,[]=>[]
termination_by a b=>a.length+b.length
theorem Ks (b:List (Int×Int)):meetL [] b=[]:=by unfold meetL;rfl
theorem Jp (a:List (Int×Int)):meetL a []=[]:=by cases a<;>(unfold meetL;rfl)
theorem Jq (x y:Int×Int)(a b:List (Int×Int)):meetL (x :: a) (y :: b)=(if mxI x.1 y.1<=mnI x.2 y.2 then [(mxI x.1 y.1,mnI x.2 y.2)] else [])++(if x.2<y.2 then meetL a (y :: b) else meetL (x :: a) b):=by rw[meetL]
theorem mx_le {p q n:Int}:mxI p q<=n↔p<=n/\q<=n:=by unfold mxI;omega
theorem le_mn {p q n:Int}:n<=mnI p q↔n<=p/\n<=q:=by unfold mnI;omega
theorem VT (n:Int):∀ (m:Nat) (a b:List (Int×Int)) (p q:Option Int),a.length+b.length<=m->runsR p a=true->runsR q b=true->hasL (meetL a b) n=(hasL a n&&hasL b n)
 |_,[],b,_,_,_,_,_=>by rw[Ks];simp[hasL]
 |_,x :: a,[],_,_,_,_,_=>by rw[Jp];simp[hasL]
 |0,x :: a,y :: b,_,_,h,_,_=>by simp at h
 |m+1,x :: a,y :: b,p,q,h,ha,hb=>by
  have ha':=(Qq _ _ _).1 ha
  have hb':=(Qq _ _ _).1 hb
  obtain⟨hx,_,hal⟩:=ha'
  obtain⟨hy,_,hbl⟩:=hb'
  unfold runOk at hx hy
  have g1:=JB a x.2 n hal
  have g2:=JB b y.2 n hbl
  simp only[List.length_cons]at h
  rw[Jq,qQu]
  have hhd:hasL (if mxI x.1 y.1<=mnI x.2 y.2 then [(mxI x.1 y.1,mnI x.2 y.2)] else []) n=(inR x n&&inR y n):=by
   have h1:hasL (if mxI x.1 y.1<=mnI x.2 y.2 then [(mxI x.1 y.1,mnI x.2 y.2)] else []) n=(decide (mxI x.1 y.1<=mnI x.2 y.2)&&inR (mxI x.1 y.1,mnI x.2 y.2) n):=by
    split<;>rename_i hc<;>simp[hasL,hc]
   rw[h1,Bool.eq_iff_iff]
   simp only[Bool.and_eq_true,decide_eq_true_eq,inR,mx_le,le_mn]
   omega
  rw[hhd,Zz,Zz]
  split
  ·rename_i hlt
   have g3:inR x n=true->hasL b n=true->False:=fun h1 h2=>by
    have:=g2 h2
    simp only[inR,Bool.and_eq_true,decide_eq_true_eq]at h1
    omega
   rw[VT n m a (y :: b) _ _ (by simp;omega) hal hb,Zz]
   cases e1:inR x n<;>cases e2:inR y n<;>cases e3:hasL a n<;>cases e4:hasL b n<;>first|rfl|exact absurd (g3 e1 e4) not_false
  ·rename_i hlt
   have g3:inR y n=true->hasL a n=true->False:=fun h1 h2=>by
    have:=g1 h2
    simp only[inR,Bool.and_eq_true,decide_eq_true_eq]at h1
    omega
   rw[VT n m (x :: a) b _ _ (by simp;omega) ha hbl,Zz]
   cases e1:inR x n<;>cases e2:inR y n<;>cases e3:hasL a n<;>cases e4:hasL b n<;>first|rfl|exact absurd (g3 e2 e3) not_false
theorem Kt:∀ (m:Nat) (a b:List (Int×Int)) (p q r:Option Int),a.length+b.length<=m->runsR p a=true->runsR q b=true->(runsR r a=true∨runsR r b=true)->runsR r (meetL a b)=true
 |_,[],b,_,_,r,_,_,_,_=>by rw[Ks];cases r<;>rfl
 |_,x :: a,[],_,_,r,_,_,_,_=>by rw[Jp];cases r<;>rfl
 |0,x :: a,y :: b,_,_,_,h,_,_,_=>by simp at h
 |m+1,x :: a,y :: b,p,q,r,h,ha,hb,hr=>by
  obtain⟨hx,_,hal⟩:=(Qq _ _ _).1 ha
  obtain⟨hy,_,hbl⟩:=(Qq _ _ _).1 hb
  unfold runOk at hx hy
  simp only[List.length_cons]at h
  rw[Jq]
  have hrest:∀ z:Option Int,(runsR z (x :: a)=true∨runsR z (y :: b)=true∨(z=some (mnI x.2 y.2)))->runsR z (if x.2<y.2 then meetL a (y :: b) else meetL (x :: a) b)=true:=fun z hz=>by
   split
   ·rename_i hlt
    refine Kt m a (y :: b) _ _ z (by simp;omega) hal hb ?_
    rcases hz with hz|hz|hz
    ·refine .inl (qZ4 hal z fun q' e=>?_)
     subst e
     have:=((Qq _ _ _).1 hz).2.1
     simp only[okR,decide_eq_true_eq]at this;omega
    ·exact .inr hz
    ·subst hz
     refine .inl ?_
     have e:mnI x.2 y.2=x.2:=by unfold mnI;omega
     rw[e];exact hal
   ·rename_i hlt
    refine Kt m (x :: a) b _ _ z (by simp;omega) ha hbl ?_
    rcases hz with hz|hz|hz
    ·exact .inl hz
    ·refine .inr (qZ4 hbl z fun q' e=>?_)
     subst e
     have:=((Qq _ _ _).1 hz).2.1
     simp only[okR,decide_eq_true_eq]at this;omega
    ·subst hz
     refine .inr ?_
     have e:mnI x.2 y.2=y.2:=by unfold mnI;omega
     rw[e];exact hbl
  split
  ·rename_i hle
   rw[List.singleton_append,Qq]
   have hok:∀ z:Option Int,r=z->okR z (mxI x.1 y.1)=true:=fun z e=>by
    cases z with
    |none=>rfl
    |some z=>
     subst e
     simp only[okR,decide_eq_true_eq]
     unfold mxI
     rcases hr with hr|hr
     ·have:=((Qq _ _ _).1 hr).2.1
      simp only[okR,decide_eq_true_eq]at this
      omega
     ·have:=((Qq _ _ _).1 hr).2.1
      simp only[okR,decide_eq_true_eq]at this
      omega
   refine⟨?_,hok r rfl,hrest _ (.inr (.inr rfl))⟩
   unfold runOk mxI mnI
   unfold mxI mnI at hle
   simp only
   exact⟨by omega,hle,by omega⟩
  ·rw[List.nil_append]
   refine hrest r ?_
   rcases hr with hr|hr
   ·exact .inl hr
   ·exact .inr (.inl hr)
theorem qW9 {a b:List (Int×Int)}(ha:runsR none a=true)(hb:runsR none b=true):meetL a b=byL a b 1:=by
 have h:=Yl (a:=a) (b:=b) 1 (Ze a none ha) (Ze b none hb)
 refine YH _ _ none none (Kt _ a b none none none (Nat.le_refl _) ha hb (.inl ha)) h.1 fun n=>?_
 rw[VT n _ a b none none (Nat.le_refl _) ha hb,h.2 n]
 simp[inn]
theorem qUa {a b:List (Int×Int)}{i k:Nat}{x y:Int×Int}(hx:a[i]?=some x)(hy:b[k]?=some y):meetL (a.drop i) (b.drop k)=(if mxI x.1 y.1<=mnI x.2 y.2 then [(mxI x.1 y.1,mnI x.2 y.2)] else [])++(if x.2<y.2 then meetL (a.drop (i+1)) (b.drop k) else meetL (a.drop i) (b.drop (k+1))):=by
 rw[QJ hx,QJ hy,Jq]
theorem qUb (a b:List (Int×Int))(va vb:Value)(w:World)(ha:SlP w w.heap.size 2 RuE va a)(hb:SlP w w.heap.size 2 RuE vb b)(hra:runsR none a=true)(hrb:runsR none b=true)(hN:(meetL a b).length<=900000) :
  Calls Tryz.prog 94 #[va,vb] w (RetO w 167 2 (fun _=>RuE) (meetL a b)):=by
 have HA:=hid ha
 have HB:=hid hb
 have HRA:=hid hra
 have HRB:=hid hrb
 obtain⟨A1,c1,rfl,a1,a2,a3⟩:=ha
 obtain⟨A2,c2,rfl,b1,b2,b3⟩:=hb
 unfold Big at a2 b2
 clear hra hrb
 go_enter Tryz.func94,Tryz.ntmps94
 go_wp2_with fail
 refine (J3 a b _ _ w HA.out HB.out).mono ?_
 rw[HRA.out,HRB.out]
 rintro e w1 ⟨rfl,hb1⟩
 have hs1:=hb1.size
 go_wp2_with fail
 go_loopw [5,6,7] (fun v i k wr=>∃ (p q:Nat) (os:List (Int×Int)),p<=a.length/\q<=b.length/\i=.int .i64 p/\k=.int .i64 q/\OwnP wr w1.heap.size 167 2 RuE v os/\Hid (os++meetL (a.drop p) (b.drop q)=meetL a b)/\Below w1.heap.size w1 wr) (fun _ i k _=>(a.length-(intOf i).toNat)+(b.length-(intOf k).toNat))
 case atStart=>exact⟨0,0,[],Nat.zero_le _,Nat.zero_le _,rfl,rfl,OwnP.nil,by unfold Hid;simp,Below.refl _ _⟩
 case round=>
  obtain⟨p,q,os,hp,hq,rfl,rfl,hown,HOS,hbr⟩:=hrel
  have hsz:=hbr.size
  have hB0:Below w.heap.size w wr:=hb1.trans (hbr.mono hs1)
  by_cases hlp:p<a.length
  case neg=>
   have e1:p=a.length:=by omega
   have hend:os=meetL a b:=by
    have h:=HOS.out
    rw[e1,List.drop_length,Ks,List.append_nil]at h;exact h
   have HEN:=hid hend
   have hi1:¬((p:Int)<(a.length:Int)):=by omega
   clear hend
   go_wp2_with fail
   go_ret
   exact⟨_,rfl,by rw[←HEN.out];exact hown.mono hs1,hB0⟩
  by_cases hlq:q<b.length
  case neg=>
   have e1:q=b.length:=by omega
   have hend:os=meetL a b:=by
    have h:=HOS.out
    rw[e1,List.drop_length,Jp,List.append_nil]at h;exact h
   have HEN:=hid hend
   have hi1:((p:Int)<(a.length:Int)):=by omega
   have hi2:¬((q:Int)<(b.length:Int)):=by omega
   clear hend
   go_wp2_with fail
   go_ret
   exact⟨_,rfl,by rw[←HEN.out];exact hown.mono hs1,hB0⟩
  obtain⟨x,hx⟩:∃ x,a[p]?=some x:=⟨_,List.getElem?_eq_getElem hlp⟩
  obtain⟨y,hy⟩:∃ y,b[q]?=some y:=⟨_,List.getElem?_eq_getElem hlq⟩
  obtain⟨ba,oa,rfl,hbA,hc⟩:=a3 (by rintro rfl;simp at hlp)
  obtain⟨bb,ob,rfl,hbB,hd⟩:=b3 (by rintro rfl;simp at hlq)
  obtain⟨cs,⟨rfl,hok⟩,_,hu⟩:=hc p _ hx
  obtain⟨ds,⟨rfl,hok2⟩,_,hv⟩:=hd q _ hy
  have e0:wr.cell? ⟨ba,oa+p*2,none⟩=some (.int .i64 x.1):=(hB0.cell hbA).trans (hu 0 _ rfl)
  have e1:wr.cell? ⟨ba,oa+p*2+1,none⟩=some (.int .i64 x.2):=(hB0.cell hbA).trans (hu 1 _ rfl)
  have f0:wr.cell? ⟨bb,ob+q*2,none⟩=some (.int .i64 y.1):=(hB0.cell hbB).trans (hv 0 _ rfl)
  have f1:wr.cell? ⟨bb,ob+q*2+1,none⟩=some (.int .i64 y.2):=(hB0.cell hbB).trans (hv 1 _ rfl)
  have hi1:((p:Int))<(a.length:Int):=by omega
  have hi2:((q:Int))<(b.length:Int):=by omega
  have hstep:=qUa hx hy
  have hx1:I64 x.1:=hok.1
  have hx2:I64 x.2:=hok.2
  have hy1:I64 y.1:=hok2.1
  have hy2:I64 y.2:=hok2.2
  have HTL:Hid (∀ os':List (Int×Int),os'=os++(if mxI x.1 y.1<=mnI x.2 y.2 then [(mxI x.1 y.1,mnI x.2 y.2)] else [])->os'++(if x.2<y.2 then meetL (a.drop (p+1)) (b.drop q) else meetL (a.drop p) (b.drop (q+1)))=meetL a b):=fun os' e=>by
   rw[e,List.append_assoc,←hstep];exact HOS.out
  clear hu hv hc hd a3 b3 hx hy hok hok2 hstep HOS
  unfold I64 at hx1 hx2 hy1 hy2
  by_cases hle:mxI x.1 y.1<=mnI x.2 y.2
  ·rw[if_pos hle]at HTL
   have hle2:max x.1 y.1<=min x.2 y.2:=hle
   have HRE:Hid (RuE (mxI x.1 y.1,mnI x.2 y.2) [.int .i64 (max x.1 y.1),.int .i64 (min x.2 y.2)]):=⟨rfl,by show I64 (mxI x.1 y.1);unfold mxI I64;omega,by show I64 (mnI x.2 y.2);unfold mnI I64;omega⟩
   have HL:Hid (os.length + [((mxI x.1 y.1,mnI x.2 y.2):Int×Int)].length<=Few):=by
    have h:=congrArg List.length (HTL.out _ rfl)
    unfold Hid Few;simp at h ⊢;omega
   have HBR:=hid hbr
   have HCE:Hid (∀ W,Below w1.heap.size wr W->(W.cell? ⟨ba,oa+p*2+1,none⟩=some (.int .i64 x.2)/\W.cell? ⟨bb,ob+q*2+1,none⟩=some (.int .i64 y.2))):=fun W hW=>⟨(hW.cell (p:=⟨ba,oa+p*2+1,none⟩) (Nat.lt_of_lt_of_le hbA hs1)).trans e1,(hW.cell (p:=⟨bb,ob+q*2+1,none⟩) (Nat.lt_of_lt_of_le hbB hs1)).trans f1⟩
   clear hle
   go_wp2_with fail
   go_quiet (fail)
   go_wp2_with (at_builtin;go_loud (refine Ql rfl (.tmp 49) (.tmp 53) _ rfl eiRun (by decide) (by decide) (fun _ _ h=>h.one) rfl ((hown.drewN _).alloc _) rfl (SlP.one (x:=(mxI x.1 y.1,mnI x.2 y.2)) HRE.out rfl _ (by rw[World.heap_drewN])) HL.out (by rw[World.size_alloc,World.heap_drewN];omega) ?_);intro v1 w4 hown4 hb4 _)
   have hb5:Below w1.heap.size wr w4:=((Z7 (Below.refl w1.heap.size wr) _).alloc (by rw[World.heap_drewN];omega) _).trans hb4
   have HB5:=hid hb5
   have hs5:=hb5.size
   clear e0 e1 f0 f1
   obtain⟨e1,f1⟩:=HCE.out _ hb5
   clear hb4 hb5
   by_cases hxy:x.2<y.2
   ·rw[if_pos hxy]at HTL
    go_wp2_with fail
    go_quiet (fail)
    go_wp2_with fail
    go_roundw
    case rel=>exact⟨p+1,q,_,by omega,hq,by go_num,by go_num,hown4.drewN _,HTL.out _ rfl,Z7 (HBR.out.trans HB5.out) _⟩
    case measure=>simp[intOf];omega
   ·rw[if_neg hxy]at HTL
    go_wp2_with fail
    go_quiet (fail)
    go_wp2_with fail
    go_roundw
    case rel=>exact⟨p,q+1,_,hp,by omega,by go_num,by go_num,hown4.drewN _,HTL.out _ rfl,Z7 (HBR.out.trans HB5.out) _⟩
    case measure=>simp[intOf];omega
  ·rw[if_neg hle]at HTL
   have hle2:¬max x.1 y.1<=min x.2 y.2:=hle
   have hle3:min x.2 y.2<max x.1 y.1:=by omega
   have HBR:=hid hbr
   clear hle
   by_cases hxy:x.2<y.2
   ·rw[if_pos hxy]at HTL
    go_wp2_with fail
    go_quiet (fail)
    go_wp2_with fail
    go_quiet (fail)
    go_wp2_with fail
    go_roundw
    case rel=>exact⟨p+1,q,os,by omega,hq,by go_num,by go_num,hown.drewN _,HTL.out _ (List.append_nil _).symm,Z7 HBR.out _⟩
    case measure=>simp[intOf];omega
   ·rw[if_neg hxy]at HTL
    go_wp2_with fail
    go_quiet (fail)
    go_wp2_with fail
    go_quiet (fail)
    go_wp2_with fail
    go_roundw
    case rel=>exact⟨p,q+1,os,hp,by omega,by go_num,by go_num,hown.drewN _,HTL.out _ (List.append_nil _).symm,Z7 HBR.out _⟩
    case measure=>simp[intOf];omega
theorem qUc {a b:List (Int×Int)}(ha:runsR none a=true)(hb:runsR none b=true):(meetL a b).length<=2*a.length+2*b.length+1:=by rw[qW9 ha hb];exact JJ a b 1
theorem qUd:VH 94 1:=
 ⟨enters_of Tryz.func94 (by kernel_rfl) rfl,fun a b va vb W ha hb hra hrb hN hN'=>by
  rw[←qW9 hra hrb]
  exact qUb a b va vb W ha hb hra hrb (by have:=qUc hra hrb;omega)⟩
theorem qQ8 (a b:List Sp)(va vb:Value)(w:World)(ha:SlP w w.heap.size 3 SpE va a)(hb:SlP w w.heap.size 3 SpE vb b)(hra:Qm a=true)(hrb:Qm b=true)(hN:a.length<=20000)(hN':b.length<=20000) :
  Calls Tryz.prog 58 #[va,vb] w (RetO w 45 3 (fun _=>SpE) (ctxBy a b 1)):=by
 go_enter Tryz.func58,Tryz.ntmps58
 go_wp2_with fail
 refine (qZy a b 1 _ qUd va vb w ha hb hra hrb hN hN').mono ?_
 rintro e w1 ⟨v,rfl,h⟩
 go_wp2_with fail
 go_ret
 exact⟨v,rfl,h⟩
theorem qY8 {c:List Sp}(h:Qm c=true):0<c.length↔∃ d,hasC c d=true:=by
 constructor
 ·intro hl
  obtain⟨s,hs⟩:∃ s,s∈c:=by
   rcases c with _|⟨s,c⟩
   ·simp at hl
   ·exact⟨s,by simp⟩
  have hd:=ZX c 0 (by unfold Qm at h;simp at h;exact h.1) s hs
  obtain⟨i,hi⟩:∃ i:Nat,(i:Int)=s.dc:=⟨s.dc.toNat,by omega⟩
  have hm:(s.fr,s.hi)∈partL c (i:Int):=by
   unfold partL
   exact List.mem_map.2 ⟨s,List.mem_filter.2 ⟨hs,by simp[hi]⟩,rfl⟩
  have hr:=Ya h (i:=i) (by omega) _ hm
  unfold runOk at hr
  simp only at hr
  refine⟨⟨s.dc,s.fr⟩,?_⟩
  unfold hasC
  rw[Bool.and_eq_true]
  refine⟨?_,?_⟩
  ·unfold Dt.right;rw[decide_eq_true_eq];simp only;omega
  ·simp only
   rw[←hi]
   unfold hasL
   rw[List.any_eq_true]
   exact⟨_,hm,by unfold inR;simp only[Bool.and_eq_true,decide_eq_true_eq];omega⟩
 ·rintro⟨d,hd⟩
  rcases c with _|⟨s,c⟩
  ·unfold hasC at hd;simp[partL,hasL]at hd
  ·simp
theorem qY9 (dc fr hi x:Int):partL [⟨dc,fr,hi⟩] x=if dc=x then [(fr,hi)] else []:=Xf [(fr,hi)] dc x
theorem Ku {dc fr hi:Int}(h1:Dt.right ⟨dc,fr⟩=true)(h2:Dt.right ⟨dc,hi⟩=true)(h3:fr<=hi):Qm [⟨dc,fr,hi⟩]=true:=by
 unfold Dt.right at h1 h2
 rw[decide_eq_true_eq]at h1 h2
 simp only at h1 h2
 unfold Qm
 rw[Bool.and_eq_true]
 refine⟨?_,?_⟩
 ·simp[dcsOk];omega
 ·rw[List.all_eq_true]
  intro i _
  rw[qY9]
  split
  ·rw[Qq];unfold runOk;simp only;exact⟨by omega,rfl,rfl⟩
  ·rfl
theorem qUe (dc fr hi:Int)(d:Dt):hasC [⟨dc,fr,hi⟩] d=true↔d.right=true/\d.dc=dc/\fr<=d.n/\d.n<=hi:=by
 unfold hasC
 rw[qY9,Bool.and_eq_true]
 refine and_congr Iff.rfl ?_
 split
 ·rename_i e
  simp[hasL,inR,e]
 ·rename_i e
  simp only[hasL,List.any_nil,Bool.false_eq_true,false_iff]
  exact fun h=>e h.1.symm
theorem JG {a b:List Sp}(ha:Qm a=true)(hb:Qm b=true)(d:Dt):hasC (ctxBy a b 1) d=(hasC a d&&hasC b d):=by
 cases hd:d.right
 ·unfold hasC;simp[hd]
 ·rw[qZ7 ha hb 1 hd];rfl
def someD (c:List Sp)(dc fr:Int)(n:Nat):Bool:=(List.range n).any fun k=>hasC c ⟨dc,fr+(k:Int)⟩
theorem Yd {c:List Sp}{dc fr:Int}{n:Nat}:someD c dc fr n=true↔∃ k,k<n/\hasC c ⟨dc,fr+(k:Int)⟩=true:=by
 unfold someD
 rw[List.any_eq_true]
 simp[List.mem_range]
theorem qQ9 {c:List Sp}(hc:Qm c=true){dc fr:Int}{n:Nat}(h1:Dt.right ⟨dc,fr⟩=true)(h2:Dt.right ⟨dc,fr+(n:Int)-1⟩=true)(hn:1<=n):(0<(ctxBy [⟨dc,fr,fr+(n:Int)-1⟩] c 1).length↔someD c dc fr n=true)/\(0<(ctxBy c [⟨dc,fr,fr+(n:Int)-1⟩] 1).length↔someD c dc fr n=true):=by
 have hr:=Ku h1 h2 (by omega)
 have hh:∀ d:Dt,(hasC [⟨dc,fr,fr+(n:Int)-1⟩] d=true/\hasC c d=true)->∃ k,k<n/\hasC c ⟨dc,fr+(k:Int)⟩=true:=fun d h=>by
  obtain⟨_,e,e1,e2⟩:=(qUe _ _ _ _).1 h.1
  refine⟨(d.n-fr).toNat,by omega,?_⟩
  have:(⟨dc,fr+((d.n-fr).toNat:Int)⟩:Dt)=d:=by
   obtain⟨a,b⟩:=d
   simp only at e e1 e2
   rw[←e,Dt.mk.injEq]
   exact⟨rfl,by simp only;omega⟩
  rw[this];exact h.2
 have hg:(∃ k,k<n/\hasC c ⟨dc,fr+(k:Int)⟩=true)->∃ d:Dt,hasC [⟨dc,fr,fr+(n:Int)-1⟩] d=true/\hasC c d=true:=fun ⟨k,hk,h⟩=>
  ⟨_,(qUe _ _ _ _).2 ⟨Y3 h,rfl,by simp only;omega,by simp only;omega⟩,h⟩
 refine⟨?_,?_⟩
 ·rw[qY8 (Y2 hr hc 1),Yd]
  constructor
  ·rintro⟨d,h⟩
   rw[JG hr hc,Bool.and_eq_true]at h
   exact hh d h
  ·intro h
   obtain⟨d,h⟩:=hg h
   exact⟨d,by rw[JG hr hc,Bool.and_eq_true];exact h⟩
 ·rw[qY8 (Y2 hc hr 1),Yd]
  constructor
  ·rintro⟨d,h⟩
   rw[JG hc hr,Bool.and_eq_true]at h
   exact hh d ⟨h.2,h.1⟩
  ·intro h
   obtain⟨d,h⟩:=hg h
   exact⟨d,by rw[JG hc hr,Bool.and_eq_true];exact⟨h.2,h.1⟩⟩
theorem qXf (t:Tr)(ve vk:Value)(w:World)(h:t.rd w w.heap.size ve vk)(hr:t.right 5=true)(hN:t.sz<=900000) :
  Calls Tryz.prog 45 #[.agg #[ve,vk]] w (RetT w t):=by
 have HC:Hid (∀ w',Below w.heap.size w w'->t.rd w' w'.heap.size ve vk):=fun w' hb=>Qi hb hb.size _ _ _ h
 obtain⟨A3,n3,A4,n4,rfl,rfl⟩:=Qk h
 have hb0:Below w.heap.size w ((w.alloc (.cells #[.slice A3 t.es.length n3,.slice A4 t.ks.length n4] 25)).alloc (.cells #[.slice none 0 0,.slice none 0 0] 25)):=((Below.refl _ w).alloc (Nat.le_refl _) _).alloc (by simp) _
 have HB0:=hid hb0
 have HW:Hid (∀ w',Below (w.heap.size+2) ((w.alloc (.cells #[.slice A3 t.es.length n3,.slice A4 t.ks.length n4] 25)).alloc (.cells #[.slice none 0 0,.slice none 0 0] 25)) w'->Below w.heap.size w w'/\w.heap.size+2<=w'.heap.size/\w'.heap[w.heap.size]?=some (.cells #[.slice A3 t.es.length n3,.slice A4 t.ks.length n4] 25 (0,0))/\w'.heap[w.heap.size+1]?=some (.cells #[.slice none 0 0,.slice none 0 0] 25 (0,0))):=fun w' hb=>by
  have hB:Below w.heap.size w w':=HB0.out.trans (hb.mono (by omega))
  exact⟨hB,by have:=hb.size;simpa using this,(hb.block _ (by omega)).trans ((Qg (by simp)).trans (Qd rfl)),(hb.block _ (by omega)).trans (Qd (by simp))⟩
 have HR:=hid hr
 clear h hr hb0
 go_enter Tryz.func45,Tryz.ntmps45
 go_wp2_with fail
 refine (QG t _ _ _ (HC.out _ HB0.out)).mono ?_
 rw[HR.out]
 rintro e w1 ⟨rfl,hb1⟩
 have HX:=hid (hb1.mono (show w.heap.size+2<=_ by simp))
 obtain⟨hB1,hs1,g2,g4⟩:=HW.out _ HX.out
 obtain⟨k0,k1⟩:=bx2 g2
 clear hb1 g2 g4
 go_wp2_with fail
 refine (YW t w1 _ _ (HC.out _ hB1) hN).mono ?_
 rintro e w2 ⟨ve2,vk2,rfl,hrd,hb2⟩
 obtain⟨Av,nv,Aw,nw,rfl,rfl⟩:=Qj hrd
 have hs2:=hb2.size
 obtain⟨hB2,_,_,g4⟩:=HW.out _ (HX.out.trans (hb2.mono hs1))
 have HG4':=hid g4
 have HRU:=hid hrd
 clear hb2 hrd g4 k0 k1
 have k0:w2.cell? ⟨w.heap.size+1,0,none⟩=some (.slice none 0 0):=Qa (i:=0) HG4'.out
 have k1:w2.cell? ⟨w.heap.size+1,1,none⟩=some (.slice none 0 0):=Qa (i:=1) HG4'.out
 have z0:=Qb (i:=0) HG4'.out
 have z1:=Qb (i:=1) HG4'.out
 go_wp2_with fail
 obtain⟨r0,r1,hrW,hsW⟩:=ZI HG4'.out HRU.out (fun b hb=>by have:=hb.1;omega)
 refine bodyPost_ret (v:=.agg #[.slice Av t.es.length nv,.slice Aw t.ks.length nw]) (by simp[results,Tryz.results45,go_sem,r0,r1]) rfl ⟨_,_,rfl,?_,(hB2.setCell (by simp) _).setCell (by simp) _⟩
 exact Qp (fun _ _=>rfl) (fun b hb=>⟨by have:=hb.1;omega,by rw[hsW];exact hb.2⟩) _ _ _ hrW
def cloT (t:Tr)(c:List Sp):Tr:=if caR t c then t else .mk [] []
def cloC (t:Tr)(c:List Sp):List Sp:=if caR t c then c else []
theorem Vm (t:Tr)(c:List Sp)(ve vk vc:Value)(w:World)(h:t.rd w w.heap.size ve vk)(hc:SlP w w.heap.size 3 SpE vc c)(hN:t.sz<=4000)(hN':c.length<=20000) :
  Calls Tryz.prog 15 #[.agg #[ve,vk,vc]] w (RetC w (cloT t c) (cloC t c)):=by
 have HC:Hid (∀ w',Below w.heap.size w w'->(t.rd w' w'.heap.size ve vk/\SlP w' w'.heap.size 3 SpE vc c)):=fun w' hb=>⟨Qi hb hb.size _ _ _ h,hc.imp hb hb.size fun _ _ _ h=>h⟩
 obtain⟨A3,n3,A4,n4,rfl,rfl⟩:=Qk h
 obtain⟨A5,n5,rfl,_⟩:=hc
 have hb0:Below w.heap.size w ((w.alloc (.cells #[.slice A3 t.es.length n3,.slice A4 t.ks.length n4,.slice A5 c.length n5] 29)).alloc (.cells #[.slice none 0 0,.slice none 0 0,.slice none 0 0] 29)):=((Below.refl _ w).alloc (Nat.le_refl _) _).alloc (by simp) _
 have HB0:=hid hb0
 have HX:Hid (∀ W,Below (w.heap.size+2) ((w.alloc (.cells #[.slice A3 t.es.length n3,.slice A4 t.ks.length n4,.slice A5 c.length n5] 29)).alloc (.cells #[.slice none 0 0,.slice none 0 0,.slice none 0 0] 29)) W->Below w.heap.size w W/\W.heap[w.heap.size+1]?=some (.cells #[.slice none 0 0,.slice none 0 0,.slice none 0 0] 29 (0,0))/\w.heap.size+2<=W.heap.size/\(W.cell? ⟨w.heap.size,0,none⟩=some (.slice A3 t.es.length n3)/\W.cell? ⟨w.heap.size,1,none⟩=some (.slice A4 t.ks.length n4)/\W.cell? ⟨w.heap.size,2,none⟩=some (.slice A5 c.length n5))):=fun W hW=>by
  have g0:W.heap[w.heap.size]?=some (.cells #[.slice A3 t.es.length n3,.slice A4 t.ks.length n4,.slice A5 c.length n5] 29 (0,0)):=(hW.block _ (by omega)).trans ((Qg (by simp)).trans (Qd rfl))
  exact⟨HB0.out.trans (hW.mono (by omega)),(hW.block _ (by omega)).trans (Qd (by simp)),by have:=hW.size;simpa using this,Qa (i:=0) g0,Qa (i:=1) g0,Qa (i:=2) g0⟩
 clear h hb0
 go_enter Tryz.func15,Tryz.ntmps15
 obtain⟨_,_,_,q0,q1,q2⟩:=HX.out _ (Below.refl _ _)
 go_wp2_with fail
 refine (QT t c _ _ _ _ (HC.out _ HB0.out).1 (HC.out _ HB0.out).2 hN hN').mono ?_
 clear q0 q1 q2
 cases hr:caR t c
 ·rintro e w1 ⟨rfl,hb1⟩
  have hX:=hb1.mono (show w.heap.size+2<=_ by simp)
  obtain⟨hB,g,hs,q0,q1,q2⟩:=HX.out _ hX
  have HG:=hid g
  have e1:cloT t c=.mk [] []:=by unfold cloT;rw[hr];rfl
  have e2:cloC t c=[]:=by unfold cloC;rw[hr];rfl
  have HE1:=hid e1
  have HE2:=hid e2
  have k0:w1.cell? ⟨w.heap.size+1,0,none⟩=some (.slice none 0 0):=Qa (i:=0) g
  have k1:w1.cell? ⟨w.heap.size+1,1,none⟩=some (.slice none 0 0):=Qa (i:=1) g
  have k2:w1.cell? ⟨w.heap.size+1,2,none⟩=some (.slice none 0 0):=Qa (i:=2) g
  have z0:=Qb (i:=0) g
  have z1:=Qb (i:=1) g
  have z2:=Qb (i:=2) g
  clear g hr hb1 hX e1 e2
  go_wp2_with fail
  obtain⟨r0,r1,r2,hK,hS⟩:=box3 HG.out (.slice none 0 0) (.slice none 0 0) (.slice none 0 0)
  refine bodyPost_ret (v:=.agg #[.slice none 0 0,.slice none 0 0,.slice none 0 0]) (by simp[results,Tryz.results15,go_sem,r0,r1,r2]) rfl ⟨_,_,_,rfl,by rw[HE1.out];exact Qo _ _,by rw[HE2.out];exact SlA.nil,((hB.setCell (by simp) _).setCell (by simp) _).setCell (by simp) _⟩
 ·rintro e w1 ⟨rfl,hb1⟩
  have hX:=hb1.mono (show w.heap.size+2<=_ by simp)
  have HX1:=hid hX
  obtain⟨hB,_,hs,q0,q1,q2⟩:=HX.out _ hX
  have e1:cloT t c=t:=by unfold cloT;rw[hr];rfl
  have e2:cloC t c=c:=by unfold cloC;rw[hr];rfl
  have HE1:=hid e1
  have HE2:=hid e2
  have HR5:=hid (Ka hr)
  have hcl:c.length<=Few:=by unfold Few;omega
  have hneA:w.heap.size+1≠w.heap.size:=by omega
  clear hb1 hX hr e1 e2
  go_upto_region 3 with (fail)
  go_region_held3 (fun w'=>w'.cell? ⟨w.heap.size,0,none⟩=some (.slice A3 t.es.length n3)/\w'.cell? ⟨w.heap.size,1,none⟩=some (.slice A4 t.ks.length n4)/\w'.cell? ⟨w.heap.size,2,none⟩=some (.slice A5 c.length n5))
   (first|go_keep|exact (HX.out _ hbk3.out).2.2.2|exact (HX.out _ hbk2.out).2.2.2)
   (first
       |(go_at_call 45;go_loud ((refine (qXf t _ _ _ (HC.out _ (HX.out _ (HX1.out.trans (by go_grown))).1).1 HR5.out (by omega)).mono ?_);rintro e w2 ⟨ve1,vk1,rfl,hrd1,hb⟩;obtain⟨Av,nv,Aw,nw,rfl,rfl⟩:=Qj hrd1;have HR:=hid hrd1;have hbk2:Hid (Below (w.heap.size+2) ((w.alloc (.cells #[.slice A3 t.es.length n3,.slice A4 t.ks.length n4,.slice A5 c.length n5] 29)).alloc (.cells #[.slice none 0 0,.slice none 0 0,.slice none 0 0] 29)) w2):=hid ((HX1.out.trans (Below.trans (by go_grown) (hb.mono (by first|omega|(simp;done)|(simp;omega))))));clear hrd1 hb))
       |(go_at_call 37;go_loud ((refine (YV c _ w2 (HC.out _ (HX.out _ hbk2.out).1).2 hcl).mono ?_);rintro e w3 ⟨v2,rfl,ho2,hb2⟩;obtain⟨A7,c7,hv7⟩:=ho2.shape;subst hv7;have HO2:=hid ho2;have hbk3:=hid (hbk2.out.trans (hb2.mono (HX.out _ hbk2.out).2.2.1));have HG2:=hid (HX.out _ hbk3.out).2.1;have k0:w3.cell? ⟨w.heap.size+1,0,none⟩=some (.slice none 0 0):=Qa (i:=0) HG2.out;have k1:w3.cell? ⟨w.heap.size+1,1,none⟩=some (.slice none 0 0):=Qa (i:=1) HG2.out;have k2:w3.cell? ⟨w.heap.size+1,2,none⟩=some (.slice none 0 0):=Qa (i:=2) HG2.out;have z0:=Qb (i:=0) HG2.out;have z1:=Qb (i:=1) HG2.out;have z2:=Qb (i:=2) HG2.out;have HB2:=hid hb2;clear ho2 hb2)))
  all_goals (
   go_wp2_with fail
   have hs3:w.heap.size+2<=w3.heap.size:=(HX.out _ hbk3.out).2.2.1
   have hs2:w.heap.size+2<=w2.heap.size:=(HX.out _ hbk2.out).2.2.1
   have hs23:=HB2.out.size
   obtain⟨r0,r1,r2,hK,hS⟩:=box3 HG2.out (.slice Av t.es.length nv) (.slice Aw t.ks.length nw) (.slice A7 c.length c7)
   have hBW:Below w.heap.size w (((w3.setCell ⟨w.heap.size+1,0,none⟩ (.slice Av t.es.length nv)).setCell ⟨w.heap.size+1,1,none⟩ (.slice Aw t.ks.length nw)).setCell ⟨w.heap.size+1,2,none⟩ (.slice A7 c.length c7)):=(((HX.out _ hbk3.out).1.setCell (by simp) _).setCell (by simp) _).setCell (by simp) _
   clear k0 k1 k2 z0 z1 z2
   generalize (((w3.setCell ⟨w.heap.size+1,0,none⟩ (.slice Av t.es.length nv)).setCell ⟨w.heap.size+1,1,none⟩ (.slice Aw t.ks.length nw)).setCell ⟨w.heap.size+1,2,none⟩ (.slice A7 c.length c7))=W at *
   refine bodyPost_ret (v:=.agg #[.slice Av t.es.length nv,.slice Aw t.ks.length nw,.slice A7 c.length c7]) (by simp[results,Tryz.results15,go_sem,r0,r1,r2]) rfl ⟨_,_,_,rfl,?_,?_,hBW⟩
   ·rw[HE1.out]
    exact Qp (fun b hb=>(hK b (by have:=hb.1;simp only[World.size_drew]at this;omega)).trans (HB2.out.block b hb.2)) (fun b hb=>⟨by have:=hb.1;simp only[World.size_drew]at this;omega,by have:=hb.2;omega⟩) _ _ _ HR.out
   ·rw[HE2.out]
    exact (HO2.out.sla (by unfold Big;omega)).up (fun b hb=>hK b (by have:=hb.1;omega)) (fun b hb=>⟨by have:=hb.1;omega,by have:=hb.2.1;omega⟩) (fun _ _ _ h=>h))
def CaE (w:World)(B:Nat)(x:Tr×List Sp)(cs:List Value):Prop:=∃ ve vk vc,cs=[ve,vk,vc]/\x.1.rd w B ve vk/\SlP w B 3 SpE vc x.2
theorem zX6 {t:Tr}{c:List Sp}(h:sml9 t c 40=true):t.sz<=40/\c.length<=40:=by
 unfold sml9 at h
 rw[Bool.and_eq_true]at h
 have h1:=zY6 h.1
 have h2:=of_decide_eq_true h.2
 omega
theorem Calls.boolEq {P:Program}{f:FuncId}{args:Array Value}{w:World}{b c:Bool}(h:Calls P f args w fun e w'=>e=.returned (.bool b)/\Below w.heap.size w w')(hb:b=c):Calls P f args w fun e w'=>e=.returned (.bool c)/\Below w.heap.size w w':=hb▸h
theorem Vn (dc fr hi:Int)(w:World)(h1:Dt.right ⟨dc,fr⟩=true)(h2:Dt.right ⟨dc,hi⟩=true)(h3:fr<=hi) :
  Calls Tryz.prog 65 #[.int .i64 dc,.int .i64 fr,.int .i64 hi] w fun e w'=>∃ v,e=.returned (.tuple #[v,.int .i64 0])/\SlA w' (fun b=>w.heap.size<=b/\b<w'.heap.size) 3 SpE v [⟨dc,fr,hi⟩]/\Below w.heap.size w w':=by
 have H1:=hid h1
 have H2:=hid h2
 have hk:Sp.Ok ⟨dc,fr,hi⟩:=by
  unfold Dt.right at h1 h2
  rw[decide_eq_true_eq]at h1 h2
  simp only at h1 h2
  exact⟨by simp only;unfold I64;omega,by simp only;unfold I64;omega,by simp only;unfold I64;omega⟩
 have HK:=hid hk
 clear h1 h2 hk
 go_enter Tryz.func65,Tryz.ntmps65
 go_wp2_with fail
 refine (Qy ⟨dc,fr⟩ _).mono ?_
 rw[H1.out]
 rintro e w1 ⟨rfl,hb1⟩
 go_wp2_with fail
 refine (Qy ⟨dc,hi⟩ _).mono ?_
 rw[H2.out]
 rintro e w2 ⟨rfl,hb2⟩
 have hB:=hb1.trans (hb2.mono hb1.size)
 have hs:=hB.size
 have hn:¬hi<fr:=by omega
 clear hb1 hb2
 go_wp2_with fail
 refine bodyPost_ret (v:=.tuple #[.slice (some ⟨w2.heap.size,0,none⟩) 1 1,.int .i64 0]) (by simp[results,Tryz.results65,go_sem]) rfl ⟨_,rfl,SlA.one (E:=SpE) (x:=(⟨dc,fr,hi⟩:Sp)) (cs:=[.int .i64 dc,.int .i64 fr,.int .i64 hi]) ⟨rfl,HK.out⟩ rfl (Qd rfl) ⟨hs,by simp⟩,hB.alloc hs _⟩
def ownC:List Sp:=[⟨0,1099511627765,1099511627776⟩]
theorem qUf:Qm ownC=true:=Ku (by decide) (by decide) (by decide)
theorem qUg (w:World):Calls Tryz.prog 59 #[] w fun e w'=>∃ v,e=.returned v/\SlA w' (fun b=>w.heap.size<=b/\b<w'.heap.size) 3 SpE v ownC/\Below w.heap.size w w':=by
 go_enter Tryz.func59,Tryz.ntmps59
 go_wp2_with fail
 refine (Vn 0 1099511627765 1099511627776 _ (by decide) (by decide) (by decide)).mono ?_
 rintro e w1 ⟨v,rfl,hs,hb⟩
 go_wp2_with fail
 go_ret
 exact⟨_,rfl,hs,hb⟩
theorem qJa {c:List Sp}(h:Qm c=true):0<(ctxBy c ownC 1).length↔someD c 0 1099511627765 12=true:=
 (qQ9 (n:=12) (dc:=0) (fr:=1099511627765) h (by decide) (by decide) (by decide)).2
theorem TxB.start {w5:World}{B:Nat}{a b c a' b' c':Value}{x y:Kn}(h1:x.1.rda w5 (fun k=>B<=k/\k<w5.heap.size) a b)(h2:SlA w5 (fun k=>B<=k/\k<w5.heap.size) 3 SpE c x.2)(h3:y.1.rda w5 (fun k=>B<=k/\k<w5.heap.size) a' b')(h4:SlA w5 (fun k=>B<=k/\k<w5.heap.size) 3 SpE c' y.2) :
  TxB (w5.alloc (.cells #[a,b,c,a',b',c',.slice none 0 0] 100)) w5.heap.size (fun k=>B<=k) (fun i=>if i=0 then (a,b,c) else (a',b',c')) (.slice none 0 0) x y []:=by
 have k1:Keeps (fun k=>B<=k/\k<w5.heap.size) w5 (w5.alloc (.cells #[a,b,c,a',b',c',.slice none 0 0] 100)):=fun k hk=>Qg hk.2
 have k2:∀ k,(B<=k/\k<w5.heap.size)->okGo (w5.alloc (.cells #[a,b,c,a',b',c',.slice none 0 0] 100)) w5.heap.size (.slice none 0 0) (fun k=>B<=k) k:=fun k hk=>⟨hk.1,by omega,by rw[World.size_alloc];omega,by simp[Value.ownBlock]⟩
 exact⟨Qd rfl,Qp k1 k2 _ _ _ h1,h2.up k1 k2 fun _ _ _ h=>h,Qp k1 k2 _ _ _ h3,h4.up k1 k2 fun _ _ _ h=>h,OwnD.nil,fun b hb=>by simp[Value.ownBlock]at hb⟩
def begE (x:Kn):Int:=if caR x.1 x.2 then (if someD x.2 0 1099511627765 12 then 1 else 0) else 1
def BegR (w:World)(x:Kn)(e:Ending)(w':World):Prop:=
 (begE x=1/\e=.returned (.tuple #[.pointer none,.int .i64 1])/\Below w.heap.size w w') ∨
 (begE x=0/\∃ g v,e=.returned (.tuple #[.pointer (some ⟨g,0,none⟩),.int .i64 0])/\w.heap.size<=g/\TxB w' g (fun b=>w.heap.size<=b) v (.slice none 0 0) x x []/\Below w.heap.size w w')
theorem qZa (x:Kn)(ve vk vc:Value)(w:World)(h:x.1.rd w w.heap.size ve vk)(hc:SlP w w.heap.size 3 SpE vc x.2)(hN:x.1.sz<=4000)(hN':x.2.length<=20000) :
  Calls Tryz.prog 27 #[.agg #[ve,vk,vc]] w (BegR w x):=by
 obtain⟨t,c⟩:=x
 simp only at h hc hN hN'
 have HC:Hid (∀ w',Below w.heap.size w w'->(t.rd w' w'.heap.size ve vk/\SlP w' w'.heap.size 3 SpE vc c)):=fun w' hb=>⟨Qi hb hb.size _ _ _ h,hc.imp hb hb.size fun _ _ _ h=>h⟩
 obtain⟨A3,n3,A4,n4,rfl,rfl⟩:=Qk h
 obtain⟨A5,n5,rfl,_⟩:=hc
 have hb0:Below w.heap.size w (w.alloc (.cells #[.slice A3 t.es.length n3,.slice A4 t.ks.length n4,.slice A5 c.length n5] 29)):=(Below.refl _ w).alloc (Nat.le_refl _) _
 have HB0:=hid hb0
 have HX:Hid (∀ W,Below (w.heap.size+1) (w.alloc (.cells #[.slice A3 t.es.length n3,.slice A4 t.ks.length n4,.slice A5 c.length n5] 29)) W->Below w.heap.size w W/\w.heap.size+1<=W.heap.size/\(W.cell? ⟨w.heap.size,0,none⟩=some (.slice A3 t.es.length n3)/\W.cell? ⟨w.heap.size,1,none⟩=some (.slice A4 t.ks.length n4)/\W.cell? ⟨w.heap.size,2,none⟩=some (.slice A5 c.length n5))):=fun W hW=>by
  have g0:W.heap[w.heap.size]?=some (.cells #[.slice A3 t.es.length n3,.slice A4 t.ks.length n4,.slice A5 c.length n5] 29 (0,0)):=(hW.block _ (by omega)).trans (Qd rfl)
  exact⟨HB0.out.trans (hW.mono (by omega)),by have:=hW.size;simpa using this,Qa (i:=0) g0,Qa (i:=1) g0,Qa (i:=2) g0⟩
 clear h hb0
 go_enter Tryz.func27,Tryz.ntmps27
 obtain⟨_,hs0,q0,q1,q2⟩:=HX.out _ (Below.refl _ _)
 go_upto_region 1 with (fail)
 cases hr:caR t c
 ·have HE:Hid (begE (t,c)=1):=by unfold Hid begE;simp[hr]
  have HQ:=hid (fun (wf:World) (hbf:Below (w.alloc (.cells #[.slice A3 t.es.length n3,.slice A4 t.ks.length n4,.slice A5 c.length n5] 29)).heap.size (w.alloc (.cells #[.slice A3 t.es.length n3,.slice A4 t.ks.length n4,.slice A5 c.length n5] 29)) wf)=>Calls.boolEq (QT t c _ _ _ wf (HC.out _ (HB0.out.trans (hbf.mono (by simp)))).1 (HC.out _ (HB0.out.trans (hbf.mono (by simp)))).2 hN hN') hr)
  have f0:=Qh (B:=(w.alloc (.cells #[.slice A3 t.es.length n3,.slice A4 t.ks.length n4,.slice A5 c.length n5] 29)).heap.size) q0 (by simp)
  have f1:=Qh (B:=(w.alloc (.cells #[.slice A3 t.es.length n3,.slice A4 t.ks.length n4,.slice A5 c.length n5] 29)).heap.size) q1 (by simp)
  have f2:=Qh (B:=(w.alloc (.cells #[.slice A3 t.es.length n3,.slice A4 t.ks.length n4,.slice A5 c.length n5] 29)).heap.size) q2 (by simp)
  clear hr q0 q1 q2 hs0
  refine Qc (w.alloc (.cells #[.slice A3 t.es.length n3,.slice A4 t.ks.length n4,.slice A5 c.length n5] 29)).heap.size (by kernel_rfl) (by kernel_rfl) ?_
  repeat (go_big_quiet_step (first|(go_at_call 34;with_reducible exact Calls.far_all (Nat.le_refl _) HQ.out)))
  refine wpQuiet_nil ?_
  intro w2 hb
  clear f0 f1 f2
  have hB:=HB0.out.trans (hb.mono (by simp))
  clear hb
  go_wp2_with fail
  exact bodyPost_ret (v:=.tuple #[.pointer none,.int .i64 1]) (by simp[results,Tryz.results27,go_sem]) rfl (.inl ⟨HE.out,rfl,hB⟩)
 ·have HAP:=hid (Kb hr)
  have HR:=hid hr
  have hml:(ctxBy c ownC 1).length<=Big:=by have:=Yn c ownC 1;unfold Big ownC at *;simp at *;omega
  have HML:=hid hml
  have e1:cloT t c=t:=by unfold cloT;rw[hr];rfl
  have e2:cloC t c=c:=by unfold cloC;rw[hr];rfl
  have HE1:=hid e1
  have HE2:=hid e2
  clear hr hml e1 e2
  go_region_held3 (fun w'=>w'.cell? ⟨w.heap.size,0,none⟩=some (.slice A3 t.es.length n3)/\w'.cell? ⟨w.heap.size,1,none⟩=some (.slice A4 t.ks.length n4)/\w'.cell? ⟨w.heap.size,2,none⟩=some (.slice A5 c.length n5))
   (first|go_keep|exact (HX.out _ hbk3.out).2.2|exact (HX.out _ hbk2.out).2.2|exact (HX.out _ hbk1.out).2.2)
   (first
    |(go_at_call 34;go_loud ((refine (QT t c _ _ _ _ (HC.out _ (HX.out _ (by go_grown)).1).1 (HC.out _ (HX.out _ (by go_grown)).1).2 hN hN').mono ?_);rw[HR.out];rintro e w1 ⟨rfl,hb⟩;have hbk1:Hid (Below (w.heap.size+1) (w.alloc (.cells #[.slice A3 t.es.length n3,.slice A4 t.ks.length n4,.slice A5 c.length n5] 29)) w1):=hid (Below.trans (by go_grown) (hb.mono (by first|omega|(simp;done)|(simp;omega))));clear hb))
    |(go_at_call 59;go_loud ((refine (qUg _).mono ?_);rintro e w2 ⟨v2,rfl,ho2,hb⟩;obtain⟨A7,c7,hv7⟩:=ho2.shape;subst hv7;have HO2:=hid ho2;have hbk2:Hid (Below (w.heap.size+1) (w.alloc (.cells #[.slice A3 t.es.length n3,.slice A4 t.ks.length n4,.slice A5 c.length n5] 29)) w2):=hid ((hbk1.out.trans (by go_grown)).trans (hb.mono (by first|exact (HX.out _ hbk1.out).2.1|omega|(simp;done)|(simp;omega))));clear ho2 hb))
    |(go_at_call 58;go_loud ((refine (qQ8 c ownC _ _ _ (HC.out _ (HX.out _ (hbk2.out.trans (by go_grown))).1).2 (HO2.out.slp (fun b hb=>hb.2) (by go_grown)) HAP.out qUf (by omega) (by unfold ownC;simp)).mono ?_);rintro e w3 ⟨v3,rfl,ho3,hb⟩;obtain⟨A8,c8,hv8⟩:=ho3.shape;subst hv8;have hbk3:Hid (Below (w.heap.size+1) (w.alloc (.cells #[.slice A3 t.es.length n3,.slice A4 t.ks.length n4,.slice A5 c.length n5] 29)) w3):=hid ((hbk2.out.trans (by go_grown)).trans (hb.mono (by first|exact (HX.out _ hbk2.out).2.1|omega|(simp;done)|(simp;omega))));clear ho3 hb))
    |fail)
  all_goals
   obtain⟨hB3,hs3,q0,q1,q2⟩:=HX.out _ hbk3.out
   have HB3:=hid hB3
   have HK3:=hid hbk3
   clear hB3
   cases hsd:someD c 0 1099511627765 12
   ·have hnl:¬0<(ctxBy c ownC 1).length:=fun h=>by rw[(qJa HAP.out).1 h]at hsd;cases hsd
    have hnd:decide (0<(ctxBy c ownC 1).length)=false:=decide_eq_false hnl
    have hz:(ctxBy c ownC 1).length=0:=by omega
    have HE:Hid (begE (t,c)=0):=by unfold Hid begE;simp[HR.out,hsd]
    clear hsd
    go_upto_region 3 with (fail)
    go_region_held3 (fun w'=>w'.cell? ⟨w.heap.size,0,none⟩=some (.slice A3 t.es.length n3)/\w'.cell? ⟨w.heap.size,1,none⟩=some (.slice A4 t.ks.length n4)/\w'.cell? ⟨w.heap.size,2,none⟩=some (.slice A5 c.length n5))
     (first|go_keep|exact (HX.out _ hbk5.out).2.2|exact (HX.out _ hbk4.out).2.2)
     (first
      |(go_at_call 15;((refine (Vm t c _ _ _ _ (HC.out _ (HX.out _ (hbk4.out.trans (by go_grown))).1).1 (HC.out _ (HX.out _ (hbk4.out.trans (by go_grown))).1).2 hN hN').mono ?_);rw[HE1.out,HE2.out];rintro e w5 ⟨v5,u5,x5,rfl,hrd5,hsl5,hb⟩;obtain⟨A51,m51,A52,m52,hv1,hv2⟩:=Qj hrd5;subst hv1;subst hv2;obtain⟨A53,m53,hv3⟩:=hsl5.shape;subst hv3;have HR5:=hid hrd5;have HS5:=hid hsl5;have HB5:Hid (Below w4.heap.size w4 w5):=hid (Below.trans (by go_grown) (hb.mono (by first|omega|(simp;done)|(simp;omega))));have hbk5:Hid (Below (w.heap.size+1) (w.alloc (.cells #[.slice A3 t.es.length n3,.slice A4 t.ks.length n4,.slice A5 c.length n5] 29)) w5):=hid (hbk4.out.trans (HB5.out.mono (HX.out _ hbk4.out).2.1));clear hrd5 hsl5 hb))
      |(go_at_call 15;go_loud ((refine (Vm t c _ _ _ _ (HC.out _ (HX.out _ (HK3.out.trans (by go_grown))).1).1 (HC.out _ (HX.out _ (HK3.out.trans (by go_grown))).1).2 hN hN').mono ?_);rw[HE1.out,HE2.out];rintro e w4 ⟨v4,u4,x4,rfl,hrd4,hsl4,hb⟩;obtain⟨A41,m41,A42,m42,hv1,hv2⟩:=Qj hrd4;subst hv1;subst hv2;obtain⟨A43,m43,hv3⟩:=hsl4.shape;subst hv3;have HR4:=hid hrd4;have HS4:=hid hsl4;have hbk4:Hid (Below (w.heap.size+1) (w.alloc (.cells #[.slice A3 t.es.length n3,.slice A4 t.ks.length n4,.slice A5 c.length n5] 29)) w4):=hid ((HK3.out.trans (by go_grown)).trans (hb.mono (by first|exact (HX.out _ HK3.out).2.1|omega|(simp;done)|(simp;omega))));clear hrd4 hsl4 hb))
      |fail)
    all_goals
     have hs4:w.heap.size+1<=w4.heap.size:=(HX.out _ hbk4.out).2.1
     have hs45:=HB5.out.size
     have hB5:=(HX.out _ hbk5.out).1
     have hst:=TxB.start (w5:=w5) (B:=w.heap.size) (x:=(t,c)) (y:=(t,c)) (Qp (fun b hb=>HB5.out.block b hb.2) (fun b hb=>⟨by have:=hb.1;first|omega|(simp at this;omega),by have:=hb.2;omega⟩) _ _ _ HR4.out) (HS4.out.up (fun b hb=>HB5.out.block b hb.2) (fun b hb=>⟨by have:=hb.1;first|omega|(simp at this;omega),by have:=hb.2;omega⟩) fun _ _ _ h=>h) (Qp (fun _ _=>rfl) (fun b hb=>⟨by have:=hb.1;first|omega|(simp at this;omega),hb.2⟩) _ _ _ HR5.out) (HS5.out.up (fun _ _=>rfl) (fun b hb=>⟨by have:=hb.1;first|omega|(simp at this;omega),hb.2⟩) fun _ _ _ h=>h)
     have HST:=hid hst
     clear hst
     go_wp2_with fail
     exact bodyPost_ret (v:=.tuple #[.pointer (some ⟨w5.heap.size,0,none⟩),.int .i64 0]) (by simp[results,Tryz.results27,go_sem]) rfl (.inr ⟨HE.out,_,_,rfl,by omega,HST.out,hB5.alloc (by omega) _⟩)
   ·have hnl:0<(ctxBy c ownC 1).length:=(qJa HAP.out).2 hsd
    have hnd:decide (0<(ctxBy c ownC 1).length)=true:=decide_eq_true hnl
    have HE:Hid (begE (t,c)=1):=by unfold Hid begE;simp[HR.out,hsd]
    clear hsd
    go_wp2_with fail
    exact bodyPost_ret (v:=.tuple #[.pointer none,.int .i64 1]) (by simp[results,Tryz.results27,go_sem]) rfl (.inl ⟨HE.out,rfl,HB3.out⟩)
theorem box7 {w:World}{g:Nat}{x0 x1 x2 x3 x4 x5 x6:Value}{ty:TypeId}(hbx:w.heap[g]?=some (.cells #[x0,x1,x2,x3,x4,x5,x6] ty (0,0)))(a b c d e f h:Value) :
  (((((((((w.setCell ⟨g,0,none⟩ a).setCell ⟨g,1,none⟩ b).setCell ⟨g,2,none⟩ c).setCell ⟨g,3,none⟩ d).setCell ⟨g,4,none⟩ e).setCell ⟨g,5,none⟩ f).setCell ⟨g,6,none⟩ h))).heap[g]?=some (.cells #[a,b,c,d,e,f,h] ty (0,0))/\(∀ k,k≠g->(((((((((w.setCell ⟨g,0,none⟩ a).setCell ⟨g,1,none⟩ b).setCell ⟨g,2,none⟩ c).setCell ⟨g,3,none⟩ d).setCell ⟨g,4,none⟩ e).setCell ⟨g,5,none⟩ f).setCell ⟨g,6,none⟩ h))).heap[k]?=w.heap[k]?)/\(((((((((w.setCell ⟨g,0,none⟩ a).setCell ⟨g,1,none⟩ b).setCell ⟨g,2,none⟩ c).setCell ⟨g,3,none⟩ d).setCell ⟨g,4,none⟩ e).setCell ⟨g,5,none⟩ f).setCell ⟨g,6,none⟩ h))).heap.size=w.heap.size/\(∀ B w0,B<=g->Below B w0 w->Below B w0 (((((((((w.setCell ⟨g,0,none⟩ a).setCell ⟨g,1,none⟩ b).setCell ⟨g,2,none⟩ c).setCell ⟨g,3,none⟩ d).setCell ⟨g,4,none⟩ e).setCell ⟨g,5,none⟩ f).setCell ⟨g,6,none⟩ h)))):=by
 have hW:=Qe (i:=6) (Qe (i:=5) (Qe (i:=4) (Qe (i:=3) (Qe (i:=2) (Qe (i:=1) (Qe (i:=0) hbx a) b) c) d) e) f) h
 refine⟨by rw[hW];simp,fun k hk=>?_,by simp[World.setCell],fun B w0 hB hb=>((((((hb.setCell hB _).setCell hB _).setCell hB _).setCell hB _).setCell hB _).setCell hB _).setCell hB _⟩
 exact (Below.heap_setCell _ _ _ _ hk).trans ((Below.heap_setCell _ _ _ _ hk).trans ((Below.heap_setCell _ _ _ _ hk).trans ((Below.heap_setCell _ _ _ _ hk).trans ((Below.heap_setCell _ _ _ _ hk).trans ((Below.heap_setCell _ _ _ _ hk).trans (Below.heap_setCell _ _ _ _ hk))))))
def RBegR (w:World)(x:Kn)(ve vk vc:Value)(e:Ending)(w':World):Prop:=
 ((begE x=1/\e=.returned (.tuple #[.agg #[.slice none 0 0,.slice none 0 0,.slice none 0 0,.slice none 0 0,.slice none 0 0,.slice none 0 0,.slice none 0 0],.int .i64 1]))∨(begE x=0/\e=.returned (.tuple #[.agg #[ve,vk,vc,.slice none 0 0,ve,vk,vc],.int .i64 0])))/\Below w.heap.size w w'
theorem Jw (x:Kn)(ve vk vc:Value)(w:World)(h:x.1.rd w w.heap.size ve vk)(hc:SlP w w.heap.size 3 SpE vc x.2)(hN:x.1.sz<=4000)(hN':x.2.length<=20000) :
  Calls Tryz.prog 28 #[.agg #[ve,vk,vc]] w (RBegR w x ve vk vc):=by
 obtain⟨t,c⟩:=x
 simp only at h hc hN hN'
 have HC:Hid (∀ w',Below w.heap.size w w'->(t.rd w' w'.heap.size ve vk/\SlP w' w'.heap.size 3 SpE vc c)):=fun w' hb=>⟨Qi hb hb.size _ _ _ h,hc.imp hb hb.size fun _ _ _ h=>h⟩
 obtain⟨A3,n3,A4,n4,rfl,rfl⟩:=Qk h
 obtain⟨A5,n5,rfl,_⟩:=hc
 have hb0:Below w.heap.size w ((w.alloc (.cells #[.slice A3 t.es.length n3,.slice A4 t.ks.length n4,.slice A5 c.length n5] 29)).alloc (.cells #[.slice none 0 0,.slice none 0 0,.slice none 0 0,.slice none 0 0,.slice none 0 0,.slice none 0 0,.slice none 0 0] 51)):=((Below.refl _ w).alloc (Nat.le_refl _) _).alloc (by simp) _
 have HB0:=hid hb0
 have HX:Hid (∀ W,Below (w.heap.size+2) ((w.alloc (.cells #[.slice A3 t.es.length n3,.slice A4 t.ks.length n4,.slice A5 c.length n5] 29)).alloc (.cells #[.slice none 0 0,.slice none 0 0,.slice none 0 0,.slice none 0 0,.slice none 0 0,.slice none 0 0,.slice none 0 0] 51)) W->Below w.heap.size w W/\w.heap.size+2<=W.heap.size/\W.heap[w.heap.size+1]?=some (.cells #[.slice none 0 0,.slice none 0 0,.slice none 0 0,.slice none 0 0,.slice none 0 0,.slice none 0 0,.slice none 0 0] 51 (0,0))/\W.cell? ⟨w.heap.size,0,none⟩=some (.slice A3 t.es.length n3)/\W.cell? ⟨w.heap.size,1,none⟩=some (.slice A4 t.ks.length n4)/\W.cell? ⟨w.heap.size,2,none⟩=some (.slice A5 c.length n5)):=fun W hW=>by
  have g0:W.heap[w.heap.size]?=some (.cells #[.slice A3 t.es.length n3,.slice A4 t.ks.length n4,.slice A5 c.length n5] 29 (0,0)):=(hW.block _ (by omega)).trans ((Qg (by simp)).trans (Qd rfl))
  exact⟨HB0.out.trans (hW.mono (by omega)),by have:=hW.size;simpa using this,(hW.block _ (by omega)).trans (Qd (by simp)),Qa (i:=0) g0,Qa (i:=1) g0,Qa (i:=2) g0⟩
 have hneA:w.heap.size+1≠w.heap.size:=by omega
 clear h hb0
 go_enter Tryz.func28,Tryz.ntmps28
 obtain⟨_,hs0,_,q0,q1,q2⟩:=HX.out _ (Below.refl _ _)
 go_wp2_with fail
 refine (qQx t c _ _ _ _ (HC.out _ HB0.out).1 (HC.out _ HB0.out).2 hN hN').mono ?_
 rw[←zZ3]
 clear q0 q1 q2 hs0
 cases hr:caR t c
 ·rintro e w1 ⟨rfl,hb1⟩
  obtain⟨hB1,hs1,hG,q0,q1,q2⟩:=HX.out _ (hb1.mono (show w.heap.size+2<=_ by simp))
  have HE:Hid (begE (t,c)=1):=by unfold Hid begE;simp[hr]
  have HG:=hid hG
  have HB1:=hid hB1
  obtain⟨k0,k1,k2,k3,k4,k5,k6,z0,z1,z2,z3,z4,z5,z6⟩:=bz7 hG
  clear hr hG hB1 hb1
  go_wp2_with fail
  obtain⟨hW7,hK7,hS7,hB7⟩:=box7 HG.out (.slice none 0 0) (.slice none 0 0) (.slice none 0 0) (.slice none 0 0) (.slice none 0 0) (.slice none 0 0) (.slice none 0 0)
  obtain⟨r0,r1,r2,r3,r4,r5,r6⟩:=bx7 hW7
  exact bodyPost_ret (v:=.tuple #[.agg #[(.slice none 0 0),(.slice none 0 0),(.slice none 0 0),(.slice none 0 0),(.slice none 0 0),(.slice none 0 0),(.slice none 0 0)],.int .i64 1]) (by simp[results,Tryz.results28,go_sem,r0,r1,r2,r3,r4,r5,r6]<;>rfl) rfl ⟨.inl ⟨HE.out,rfl⟩,hB7 _ _ (by omega) HB1.out⟩
 ·rintro e w1 ⟨rfl,hb1⟩
  have hX1:=hb1.mono (show w.heap.size+2<=_ by simp)
  have HX1:=hid hX1
  have HR:=hid hr
  clear hb1 hX1 hr
  go_wp2_with fail
  go_loopw [9] (fun i wr=>∃ k:Nat,k<=12/\i=.int .i64 k/\Hid (∀ j,j<k->hasC c (txD j)=false)/\Below (w.heap.size+2) ((w.alloc (.cells #[.slice A3 t.es.length n3,.slice A4 t.ks.length n4,.slice A5 c.length n5] 29)).alloc (.cells #[.slice none 0 0,.slice none 0 0,.slice none 0 0,.slice none 0 0,.slice none 0 0,.slice none 0 0,.slice none 0 0] 51)) wr) (fun i _=>12-(intOf i).toNat)
  case atStart=>exact⟨0,by omega,rfl,fun j hj=>absurd hj (Nat.not_lt_zero _),HX1.out⟩
  case round=>
   obtain⟨k,hk,rfl,hno,hb⟩:=hrel
   have HB:=hid hb
   obtain⟨hB1,hs1,hG,q0,q1,q2⟩:=HX.out _ hb
   clear hb
   by_cases hlt:k<12
   ·have hkk:(k:Int)<12:=by omega
    have hwr:IntKind.i64.wrap (1099511627765+(k:Int))=1099511627765+(k:Int):=IntWalk.i64_in _ (by omega)
    clear hG
    go_wp2_with fail
    refine (Zr c ⟨0,1099511627765+(k:Int)⟩ _ _ (HC.out _ hB1).2 (by omega)).mono ?_
    cases hh:hasC c ⟨0,1099511627765+(k:Int)⟩
    ·rintro e w2 ⟨rfl,hb2⟩
     have HN2:Hid (∀ j,j<k+1->hasC c (txD j)=false):=fun j hj=>by
      rcases (show j<k∨j=k by omega) with h|rfl
      ·exact hno.out j h
      ·exact hh
     have HB2:=hid (HB.out.trans (hb2.mono hs1))
     clear hh hb2 hB1
     go_wp2_with fail
     go_roundw
     case rel=>exact⟨k+1,by omega,by go_num,HN2,HB2.out⟩
     case measure=>simp[intOf];omega
    ·rintro e w2 ⟨rfl,hb2⟩
     have HE:Hid (begE (t,c)=1):=by
      unfold Hid begE
      have:someD c 0 1099511627765 12=true:=Yd.2 ⟨k,hlt,hh⟩
      simp[HR.out,this]
     clear q0 q1 q2
     obtain⟨hB2,hs2,hG,q0,q1,q2⟩:=HX.out _ (HB.out.trans (hb2.mono hs1))
     have HG:=hid hG
     have HB2:=hid hB2
     obtain⟨k0,k1,k2,k3,k4,k5,k6,z0,z1,z2,z3,z4,z5,z6⟩:=bz7 hG
     clear hG hB2 hb2 hh hB1
     go_wp2_with fail
     obtain⟨hW7,hK7,hS7,hB7⟩:=box7 HG.out (.slice none 0 0) (.slice none 0 0) (.slice none 0 0) (.slice none 0 0) (.slice none 0 0) (.slice none 0 0) (.slice none 0 0)
     obtain⟨r0,r1,r2,r3,r4,r5,r6⟩:=bx7 hW7
     exact bodyPost_ret (v:=.tuple #[.agg #[(.slice none 0 0),(.slice none 0 0),(.slice none 0 0),(.slice none 0 0),(.slice none 0 0),(.slice none 0 0),(.slice none 0 0)],.int .i64 1]) (by simp[results,Tryz.results28,go_sem,r0,r1,r2,r3,r4,r5,r6]<;>rfl) rfl ⟨.inl ⟨HE.out,rfl⟩,hB7 _ _ (by omega) HB2.out⟩
   ·have hke:k=12:=by omega
    subst hke
    have HE:Hid (begE (t,c)=0):=by
     unfold Hid begE
     have:someD c 0 1099511627765 12=false:=by
      rw[Bool.eq_false_iff]
      intro h
      obtain⟨j,hj,hh⟩:=Yd.1 h
      have:=hno.out j hj
      unfold txD at this
      rw[this]at hh;cases hh
     simp[HR.out,this]
    have HG:=hid hG
    have HB1:=hid hB1
    obtain⟨k0,k1,k2,k3,k4,k5,k6,z0,z1,z2,z3,z4,z5,z6⟩:=bz7 hG
    clear hG hB1
    go_wp2_with fail
    obtain⟨hW7,hK7,hS7,hB7⟩:=box7 HG.out (.slice A3 t.es.length n3) (.slice A4 t.ks.length n4) (.slice A5 c.length n5) (.slice none 0 0) (.slice A3 t.es.length n3) (.slice A4 t.ks.length n4) (.slice A5 c.length n5)
    obtain⟨r0,r1,r2,r3,r4,r5,r6⟩:=bx7 hW7
    exact bodyPost_ret (v:=.tuple #[.agg #[(.slice A3 t.es.length n3),(.slice A4 t.ks.length n4),(.slice A5 c.length n5),(.slice none 0 0),(.slice A3 t.es.length n3),(.slice A4 t.ks.length n4),(.slice A5 c.length n5)],.int .i64 0]) (by simp[results,Tryz.results28,go_sem,r0,r1,r2,r3,r4,r5,r6]<;>rfl) rfl ⟨.inr ⟨HE.out,rfl⟩,hB7 _ _ (by omega) HB1.out⟩
theorem qKm (xs:List _)(v:Value)(w:World)(h:SlP w w.heap.size 1 StE v xs)(hN:xs.length<=Few) :
  Calls Tryz.prog 92 #[v] w (RetO w 9 1 (fun _=>StE) xs):=by
 have H:=hid h
 have q:∀ (w:World) (a:Option Addr) (n c n' c':Nat),(binOp .eql 30 (.slice a n c) (.slice none n' c')).run Tryz.prog w=.ok (.bool a.isNone) w:=fun w a n c n' c'=>Lib.run_eql_slice_nil w _ _ a n c n' c' Tryz.underlying30
 obtain⟨A,c,rfl,h1,h2,h3⟩:=h
 cases A with
 |none=>
  have hz:xs=[]:=by
   rcases xs with _|⟨x,xs⟩
   ·rfl
   ·obtain⟨b,off,e,_⟩:=h3 (by simp);cases e
  subst hz
  go_enter Tryz.func92,Tryz.ntmps92
  go_wp2_with fail
  go_ret
  exact⟨_,rfl,OwnP.nil,Below.refl _ _⟩
 |some a=>
  have HN:=hid hN
  clear h1 h2 h3
  go_enter Tryz.func92,Tryz.ntmps92
  go_wp2_with (at_builtin;go_loud (refine Ql rfl (.tmp 5) (.tmp 6) _ rfl eiStr (by decide) (by decide) (fun _ _ h=>h.one) rfl (OwnP.zero (base:=w.heap.size) (Qd rfl) (Nat.le_refl _)) rfl (H.out.imp ((Below.refl _ w).alloc (Nat.le_refl _) _) (Nat.le_refl _) fun _ _ _ h=>h) (by simpa using HN.out) (by simp) ?_);intro v2 w2 hown2 hb2 _)
  go_ret
  exact⟨_,rfl,by simpa using hown2,((Below.refl _ w).alloc (Nat.le_refl _) _).trans hb2⟩
theorem box4o {w:World}{g:Nat}{x y z u:Value}{e:TypeId}(hbx:w.heap[g]?=some (.cells #[x,y,z,u] e (0,0)))(a b c d:Value) :
  ((((w.setCell ⟨g,0,none⟩ a).setCell ⟨g,1,none⟩ b).setCell ⟨g,2,none⟩ c).setCell ⟨g,3,none⟩ d).heap[g]?=some (.cells #[a,b,c,d] e (0,0)) /\
   (∀ k,k≠g->((((w.setCell ⟨g,0,none⟩ a).setCell ⟨g,1,none⟩ b).setCell ⟨g,2,none⟩ c).setCell ⟨g,3,none⟩ d).heap[k]?=w.heap[k]?)/\((((w.setCell ⟨g,0,none⟩ a).setCell ⟨g,1,none⟩ b).setCell ⟨g,2,none⟩ c).setCell ⟨g,3,none⟩ d).heap.size=w.heap.size:=by
 have hW:=Qe (i:=3) (Qe (i:=2) (Qe (i:=1) (Qe (i:=0) hbx a) b) c) d
 exact⟨by rw[hW];simp,fun k hk=>(Below.heap_setCell _ _ _ _ hk).trans ((Below.heap_setCell _ _ _ _ hk).trans ((Below.heap_setCell _ _ _ _ hk).trans (Below.heap_setCell _ _ _ _ hk))),by simp[World.setCell]⟩
def RetOp (w:World)(o:Opr)(e:Ending)(w':World):Prop:=
 ∃ vp,e=.returned (.agg #[vp,.int .i64 o.act,.string o.s,.int .i64 o.n])/\SlA w' (fun b=>w.heap.size<=b/\b<w'.heap.size) 1 StE vp o.path/\Below w.heap.size w w'
theorem Kv (o:Opr)(vp:Value)(w:World)(h:SlP w w.heap.size 1 StE vp o.path)(hN:o.path.length<=900000) :
  Calls Tryz.prog 56 #[.agg #[vp,.int .i64 o.act,.string o.s,.int .i64 o.n]] w (RetOp w o):=by
 obtain⟨A,c,rfl,b1,b2,_⟩:=id h
 obtain⟨path,act,s,n⟩:=o
 simp only at h hN b1 b2 ⊢
 have HC:Hid (∀ w',Below w.heap.size w w'->SlP w' w'.heap.size 1 StE (.slice A path.length c) path):=fun w' hb=>h.imp hb hb.size fun _ _ _ h=>h
 have hb0:Below w.heap.size w ((w.alloc (.cells #[.slice A path.length c,.int .i64 act,.string s,.int .i64 n] 65)).alloc (.cells #[.slice none 0 0,.int .i64 0,.string ByteArray.empty,.int .i64 0] 65)):=((Below.refl _ w).alloc (Nat.le_refl _) _).alloc (by simp) _
 have HB0:=hid hb0
 have HX:Hid (∀ W,Below (w.heap.size+2) ((w.alloc (.cells #[.slice A path.length c,.int .i64 act,.string s,.int .i64 n] 65)).alloc (.cells #[.slice none 0 0,.int .i64 0,.string ByteArray.empty,.int .i64 0] 65)) W->(W.heap[w.heap.size]?=some (.cells #[.slice A path.length c,.int .i64 act,.string s,.int .i64 n] 65 (0,0))/\W.heap[w.heap.size+1]?=some (.cells #[.slice none 0 0,.int .i64 0,.string ByteArray.empty,.int .i64 0] 65 (0,0)))):=fun W hW=>
  ⟨(hW.block _ (by omega)).trans ((Qg (by simp)).trans (Qd rfl)),(hW.block _ (by omega)).trans (Qd (by simp))⟩
 clear h hb0
 go_enter Tryz.func56,Tryz.ntmps56
 go_wp2_with fail
 refine (qKm path _ _ (HC.out _ HB0.out) (by unfold Few;omega)).mono ?_
 rintro e w1 ⟨v1,rfl,hown,hb⟩
 obtain⟨A1,c1,hv⟩:=OwnP.shape hown
 subst hv
 have HO:=hid hown
 have hB:Below (w.heap.size+2) ((w.alloc (.cells #[.slice A path.length c,.int .i64 act,.string s,.int .i64 n] 65)).alloc (.cells #[.slice none 0 0,.int .i64 0,.string ByteArray.empty,.int .i64 0] 65)) w1:=hb.mono (by simp)
 have hs1:=hb.size
 simp only[World.size_alloc]at hs1
 have HB:=hid hB
 obtain⟨g0,g1⟩:=HX.out _ hB
 have HG0:=hid g0
 have HG1:=hid g1
 have e1:=Qa (i:=1) g0
 have e2:=Qa (i:=2) g0
 have e3:=Qa (i:=3) g0
 have f0:=Qb (i:=0) g0
 have k0:=Qb (i:=0) g1
 have k1:=Qb (i:=1) g1
 have k2:=Qb (i:=2) g1
 have k3:=Qb (i:=3) g1
 have l0:=Qa (i:=0) g0
 have m0:w1.cell? ⟨w.heap.size+1,0,none⟩=some (.slice none 0 0):=Qa (i:=0) g1
 have m1:w1.cell? ⟨w.heap.size+1,1,none⟩=some (.int .i64 0):=Qa (i:=1) g1
 have m2:w1.cell? ⟨w.heap.size+1,2,none⟩=some (.string ByteArray.empty):=Qa (i:=2) g1
 have m3:w1.cell? ⟨w.heap.size+1,3,none⟩=some (.int .i64 0):=Qa (i:=3) g1
 simp only[List.getElem?_toArray,List.getElem?_cons_zero,List.getElem?_cons_succ]at e1 e2 e3 l0
 have hne:w.heap.size+1≠w.heap.size:=by omega
 have hne':w.heap.size≠w.heap.size+1:=by omega
 clear hown hb hB g0 g1
 go_wp2_with fail
 have hg1:(w1.setCell ⟨w.heap.size,0,none⟩ (.slice A1 path.length c1)).heap[w.heap.size+1]?=some (.cells #[.slice none 0 0,.int .i64 0,.string ByteArray.empty,.int .i64 0] 65 (0,0)):=(Below.heap_setCell _ _ _ _ hne).trans HG1.out
 obtain⟨hW,hK,hS⟩:=box4o hg1 (.slice A1 path.length c1) (.int .i64 act) (.string s) (.int .i64 n)
 obtain⟨r0,r1,r2,r3⟩:=bx4 hW
 have hBW:Below w.heap.size w (((((w1.setCell ⟨w.heap.size,0,none⟩ (.slice A1 path.length c1)).setCell ⟨w.heap.size+1,0,none⟩ (.slice A1 path.length c1)).setCell ⟨w.heap.size+1,1,none⟩ (.int .i64 act)).setCell ⟨w.heap.size+1,2,none⟩ (.string s)).setCell ⟨w.heap.size+1,3,none⟩ (.int .i64 n)):=(((((HB0.out.trans (HB.out.mono (by omega))).setCell (Nat.le_refl _) _).setCell (by simp) _).setCell (by simp) _).setCell (by simp) _).setCell (by simp) _
 have hS1:(w1.setCell ⟨w.heap.size,0,none⟩ (.slice A1 path.length c1)).heap.size=w1.heap.size:=by simp[World.setCell]
 refine bodyPost_ret (v:=.agg #[.slice A1 path.length c1,.int .i64 act,.string s,.int .i64 n]) (by simp[results,Tryz.results56,go_sem,r0,r1,r2,r3]) rfl ⟨_,rfl,?_,hBW⟩
 exact (HO.out.sla (by unfold Big;omega)).up (fun b hb=>(hK b (by have:=hb.1;simp only[World.size_alloc]at this;omega)).trans (Below.heap_setCell _ _ _ _ (by have:=hb.1;simp only[World.size_alloc]at this;show b≠w.heap.size;omega))) (fun b hb=>⟨by have:=hb.1;simp only[World.size_alloc]at this;omega,by rw[hS,hS1];exact hb.2.1⟩) (fun _ _ _ h=>h)
theorem QU {w w1:World}{N g:Nat}{T:Tr}{C:List Sp}{x y z a b c:Value}{e:TypeId}(hG:w1.heap[g]?=some (.cells #[x,y,z] e (0,0)))(hB:Below w.heap.size w w1)(hg:w.heap.size<=g)(hN:g<N)(hrd:T.rda w1 (fun b=>N<=b/\b<w1.heap.size) a b)(hsl:SlA w1 (fun b=>N<=b/\b<w1.heap.size) 3 SpE c C) :
  (((w1.setCell ⟨g,0,none⟩ a).setCell ⟨g,1,none⟩ b).setCell ⟨g,2,none⟩ c).cell? ⟨g,0,none⟩=some a/\(((w1.setCell ⟨g,0,none⟩ a).setCell ⟨g,1,none⟩ b).setCell ⟨g,2,none⟩ c).cell? ⟨g,1,none⟩=some b/\(((w1.setCell ⟨g,0,none⟩ a).setCell ⟨g,1,none⟩ b).setCell ⟨g,2,none⟩ c).cell? ⟨g,2,none⟩=some c /\
  T.rda (((w1.setCell ⟨g,0,none⟩ a).setCell ⟨g,1,none⟩ b).setCell ⟨g,2,none⟩ c) (fun q=>w.heap.size<=q/\q<(((w1.setCell ⟨g,0,none⟩ a).setCell ⟨g,1,none⟩ b).setCell ⟨g,2,none⟩ c).heap.size) a b /\
  SlA (((w1.setCell ⟨g,0,none⟩ a).setCell ⟨g,1,none⟩ b).setCell ⟨g,2,none⟩ c) (fun q=>w.heap.size<=q/\q<(((w1.setCell ⟨g,0,none⟩ a).setCell ⟨g,1,none⟩ b).setCell ⟨g,2,none⟩ c).heap.size) 3 SpE c C /\
  Below w.heap.size w (((w1.setCell ⟨g,0,none⟩ a).setCell ⟨g,1,none⟩ b).setCell ⟨g,2,none⟩ c):=by
 obtain⟨r0,r1,r2,hK,hS⟩:=box3 hG a b c
 have hBW:=((hB.setCell (p:=⟨g,0,none⟩) hg a).setCell (p:=⟨g,1,none⟩) hg b).setCell (p:=⟨g,2,none⟩) hg c
 exact⟨r0,r1,r2,Qp (fun q hq=>hK q (by omega)) (fun q hq=>⟨by omega,by rw[hS];exact hq.2⟩) _ _ _ hrd,hsl.up (fun q hq=>hK q (by omega)) (fun q hq=>⟨by omega,by rw[hS];exact hq.2⟩) (fun _ _ _ h=>h),hBW⟩
theorem zQ9 (u:Tr)(o:Opr)(d:Dt)(ve vk vp:Value)(w:World)(h:u.rd w w.heap.size ve vk)(hp:SlP w w.heap.size 1 StE vp o.path)(ho:o.Ok)(hd:d.Ok)(hN:u.sz<=4000) :
  Calls Tryz.prog 99 #[.agg #[ve,vk],.agg #[vp,.int .i64 o.act,.string o.s,.int .i64 o.n],.agg #[.int .i64 d.dc,.int .i64 d.n]] w (RetCE w (leafX u o d).1 (leafX u o d).2.1 (leafX u o d).2.2):=by
 have HC:Hid (∀ w',Below w.heap.size w w'->u.rd w' w'.heap.size ve vk):=fun w' hb=>Qi hb hb.size _ _ _ h
 obtain⟨A3,n3,A4,n4,rfl,rfl⟩:=Qk h
 obtain⟨A5,n5,rfl,_⟩:=hp
 obtain⟨oa,on,os⟩:=ho
 obtain⟨path,act,s,n⟩:=o
 simp only at oa on os ⊢
 have hb0:=((((Below.refl w.heap.size w).alloc (Nat.le_refl _) (.cells #[.slice A3 u.es.length n3,.slice A4 u.ks.length n4] 25)).alloc (by simp) (.cells #[.slice A5 path.length n5,.int .i64 act,.string s,.int .i64 n] 65)).alloc (by simp;omega) (.cells #[.int .i64 d.dc,.int .i64 d.n] 78)).alloc (by simp;omega) (.cells #[.slice none 0 0,.slice none 0 0,.slice none 0 0] 29)
 have HX:Hid (∀ W,Below (w.heap.size+4) ((((w.alloc (.cells #[.slice A3 u.es.length n3,.slice A4 u.ks.length n4] 25)).alloc (.cells #[.slice A5 path.length n5,.int .i64 act,.string s,.int .i64 n] 65)).alloc (.cells #[.int .i64 d.dc,.int .i64 d.n] 78)).alloc (.cells #[.slice none 0 0,.slice none 0 0,.slice none 0 0] 29)) W ->
   (Below w.heap.size w W/\W.cell? ⟨w.heap.size,0,none⟩=some (.slice A3 u.es.length n3)/\W.cell? ⟨w.heap.size,1,none⟩=some (.slice A4 u.ks.length n4)/\W.cell? ⟨w.heap.size+1,0,none⟩=some (.slice A5 path.length n5)/\W.cell? ⟨w.heap.size+1,1,none⟩=some (.int .i64 act)/\W.cell? ⟨w.heap.size+1,2,none⟩=some (.string s)/\W.cell? ⟨w.heap.size+1,3,none⟩=some (.int .i64 n) /\
    W.cell? ⟨w.heap.size+2,0,none⟩=some (.int .i64 d.dc)/\W.cell? ⟨w.heap.size+2,1,none⟩=some (.int .i64 d.n)/\W.heap[w.heap.size+3]?=some (.cells #[.slice none 0 0,.slice none 0 0,.slice none 0 0] 29 (0,0)))):=fun W hW=>by
  have g0:W.heap[w.heap.size]?=some (.cells #[.slice A3 u.es.length n3,.slice A4 u.ks.length n4] 25 (0,0)):=(hW.block _ (by omega)).trans ((Qg (by simp<;>omega)).trans ((Qg (by simp<;>omega)).trans ((Qg (by simp)).trans (Qd rfl))))
  have g1:W.heap[w.heap.size+1]?=some (.cells #[.slice A5 path.length n5,.int .i64 act,.string s,.int .i64 n] 65 (0,0)):=(hW.block _ (by omega)).trans ((Qg (by simp<;>omega)).trans ((Qg (by simp)).trans (Qd (by simp))))
  have g2:W.heap[w.heap.size+2]?=some (.cells #[.int .i64 d.dc,.int .i64 d.n] 78 (0,0)):=(hW.block _ (by omega)).trans ((Qg (by simp)).trans (Qd (by simp)))
  have g3:W.heap[w.heap.size+3]?=some (.cells #[.slice none 0 0,.slice none 0 0,.slice none 0 0] 29 (0,0)):=(hW.block _ (by omega)).trans (Qd (by simp))
  exact⟨hb0.trans (hW.mono (by omega)),Qa (i:=0) g0,Qa (i:=1) g0,Qa (i:=0) g1,Qa (i:=1) g1,Qa (i:=2) g1,Qa (i:=3) g1,Qa (i:=0) g2,Qa (i:=1) g2,g3⟩
 clear h
 by_cases a1:act=1
 ·subst a1
  rw[qWp rfl]
  go_enter Tryz.func99,Tryz.ntmps99
  obtain⟨hB0,c0,c1,p0,p1,p2,p3,d0,d1,g3⟩:=HX.out _ (Below.refl _ _)
  clear g3
  go_wp2_with fail
  refine (qXb u d _ _ _ (HC.out _ hb0) (by omega) hd).mono ?_
  rintro e w1 ⟨ve1,vk1,vc1,rfl,hrd1,hsl1,hb1⟩
  obtain⟨Av,nv,Aw,nw,rfl,rfl⟩:=Qj hrd1
  obtain⟨Ac,nc,rfl⟩:=hsl1.shape
  simp only[World.size_alloc]at hrd1 hsl1 hb1
  have hBx:Below (w.heap.size+4) _ w1:=hb1.mono (by omega)
  clear c0 c1 p0 p1 p2 p3 d0 d1
  obtain⟨hB1,c0,c1,p0,p1,p2,p3,d0,d1,hG⟩:=HX.out _ hBx
  have HG:=hid hG
  obtain⟨k0,k1,k2,z0,z1,z2⟩:=bz3 hG
  have HR:=hid hrd1
  have HS:=hid hsl1
  have HB:=hid hB1
  clear hrd1 hsl1 hb1 hBx hG hB1 c0 c1 p0 p1 p2 p3 d0 d1
  go_wp2_with fail
  obtain⟨r0,r1,r2,q1,q2,q3⟩:=QU HG.out HB.out (by omega) (by omega) HR.out HS.out
  exact bodyPost_ret (v:=.tuple #[.agg #[_,_,_],.int .i64 _]) (by simp[results,Tryz.results99,go_sem,r0,r1,r2]<;>rfl) rfl ⟨_,_,_,rfl,q1,q2,q3⟩
 by_cases a2:act=2
 ·subst a2
  rw[qWq rfl]
  go_enter Tryz.func99,Tryz.ntmps99
  obtain⟨hB0,c0,c1,p0,p1,p2,p3,d0,d1,g3⟩:=HX.out _ (Below.refl _ _)
  clear g3
  go_wp2_with fail
  refine (qQl u d _ _ _ (HC.out _ hb0) (by omega) hd).mono ?_
  rintro e w1 ⟨ve1,vk1,vc1,rfl,hrd1,hsl1,hb1⟩
  obtain⟨Av,nv,Aw,nw,rfl,rfl⟩:=Qj hrd1
  obtain⟨Ac,nc,rfl⟩:=hsl1.shape
  simp only[World.size_alloc]at hrd1 hsl1 hb1
  have hBx:Below (w.heap.size+4) _ w1:=hb1.mono (by omega)
  clear c0 c1 p0 p1 p2 p3 d0 d1
  obtain⟨hB1,c0,c1,p0,p1,p2,p3,d0,d1,hG⟩:=HX.out _ hBx
  have HG:=hid hG
  obtain⟨k0,k1,k2,z0,z1,z2⟩:=bz3 hG
  have HR:=hid hrd1
  have HS:=hid hsl1
  have HB:=hid hB1
  clear hrd1 hsl1 hb1 hBx hG hB1 c0 c1 p0 p1 p2 p3 d0 d1
  go_wp2_with fail
  obtain⟨r0,r1,r2,q1,q2,q3⟩:=QU HG.out HB.out (by omega) (by omega) HR.out HS.out
  exact bodyPost_ret (v:=.tuple #[.agg #[_,_,_],.int .i64 _]) (by simp[results,Tryz.results99,go_sem,r0,r1,r2]<;>rfl) rfl ⟨_,_,_,rfl,q1,q2,q3⟩
 by_cases a3:act=3
 ·subst a3
  rw[qWr rfl]
  go_enter Tryz.func99,Tryz.ntmps99
  obtain⟨hB0,c0,c1,p0,p1,p2,p3,d0,d1,g3⟩:=HX.out _ (Below.refl _ _)
  clear g3
  go_wp2_with fail
  refine (zQn u s d _ _ _ (HC.out _ hb0) os (by omega) hd).mono ?_
  rintro e w1 ⟨ve1,vk1,vc1,rfl,hrd1,hsl1,hb1⟩
  obtain⟨Av,nv,Aw,nw,rfl,rfl⟩:=Qj hrd1
  obtain⟨Ac,nc,rfl⟩:=hsl1.shape
  simp only[World.size_alloc]at hrd1 hsl1 hb1
  have hBx:Below (w.heap.size+4) _ w1:=hb1.mono (by omega)
  clear c0 c1 p0 p1 p2 p3 d0 d1
  obtain⟨hB1,c0,c1,p0,p1,p2,p3,d0,d1,hG⟩:=HX.out _ hBx
  have HG:=hid hG
  obtain⟨k0,k1,k2,z0,z1,z2⟩:=bz3 hG
  have HR:=hid hrd1
  have HS:=hid hsl1
  have HB:=hid hB1
  clear hrd1 hsl1 hb1 hBx hG hB1 c0 c1 p0 p1 p2 p3 d0 d1
  go_wp2_with fail
  obtain⟨r0,r1,r2,q1,q2,q3⟩:=QU HG.out HB.out (by omega) (by omega) HR.out HS.out
  exact bodyPost_ret (v:=.tuple #[.agg #[_,_,_],.int .i64 _]) (by simp[results,Tryz.results99,go_sem,r0,r1,r2]<;>rfl) rfl ⟨_,_,_,rfl,q1,q2,q3⟩
 by_cases a4:act=4
 ·subst a4
  rw[qWs rfl]
  go_enter Tryz.func99,Tryz.ntmps99
  obtain⟨hB0,c0,c1,p0,p1,p2,p3,d0,d1,g3⟩:=HX.out _ (Below.refl _ _)
  clear g3
  go_wp2_with fail
  refine (zQm u s d _ _ _ (HC.out _ hb0) os (by omega) hd).mono ?_
  rintro e w1 ⟨ve1,vk1,vc1,rfl,hrd1,hsl1,hb1⟩
  obtain⟨Av,nv,Aw,nw,rfl,rfl⟩:=Qj hrd1
  obtain⟨Ac,nc,rfl⟩:=hsl1.shape
  simp only[World.size_alloc]at hrd1 hsl1 hb1
  have hBx:Below (w.heap.size+4) _ w1:=hb1.mono (by omega)
  clear c0 c1 p0 p1 p2 p3 d0 d1
  obtain⟨hB1,c0,c1,p0,p1,p2,p3,d0,d1,hG⟩:=HX.out _ hBx
  have HG:=hid hG
  obtain⟨k0,k1,k2,z0,z1,z2⟩:=bz3 hG
  have HR:=hid hrd1
  have HS:=hid hsl1
  have HB:=hid hB1
  clear hrd1 hsl1 hb1 hBx hG hB1 c0 c1 p0 p1 p2 p3 d0 d1
  go_wp2_with fail
  obtain⟨r0,r1,r2,q1,q2,q3⟩:=QU HG.out HB.out (by omega) (by omega) HR.out HS.out
  exact bodyPost_ret (v:=.tuple #[.agg #[_,_,_],.int .i64 _]) (by simp[results,Tryz.results99,go_sem,r0,r1,r2]<;>rfl) rfl ⟨_,_,_,rfl,q1,q2,q3⟩
 by_cases a5:act=5
 ·subst a5
  rw[qWt rfl]
  go_enter Tryz.func99,Tryz.ntmps99
  obtain⟨hB0,c0,c1,p0,p1,p2,p3,d0,d1,g3⟩:=HX.out _ (Below.refl _ _)
  clear g3
  go_wp2_with fail
  refine (zQo u n d _ _ _ (HC.out _ hb0) (by omega) on hd).mono ?_
  rintro e w1 ⟨ve1,vk1,vc1,rfl,hrd1,hsl1,hb1⟩
  obtain⟨Av,nv,Aw,nw,rfl,rfl⟩:=Qj hrd1
  obtain⟨Ac,nc,rfl⟩:=hsl1.shape
  simp only[World.size_alloc]at hrd1 hsl1 hb1
  have hBx:Below (w.heap.size+4) _ w1:=hb1.mono (by omega)
  clear c0 c1 p0 p1 p2 p3 d0 d1
  obtain⟨hB1,c0,c1,p0,p1,p2,p3,d0,d1,hG⟩:=HX.out _ hBx
  have HG:=hid hG
  obtain⟨k0,k1,k2,z0,z1,z2⟩:=bz3 hG
  have HR:=hid hrd1
  have HS:=hid hsl1
  have HB:=hid hB1
  clear hrd1 hsl1 hb1 hBx hG hB1 c0 c1 p0 p1 p2 p3 d0 d1
  go_wp2_with fail
  obtain⟨r0,r1,r2,q1,q2,q3⟩:=QU HG.out HB.out (by omega) (by omega) HR.out HS.out
  exact bodyPost_ret (v:=.tuple #[.agg #[_,_,_],.int .i64 _]) (by simp[results,Tryz.results99,go_sem,r0,r1,r2]<;>rfl) rfl ⟨_,_,_,rfl,q1,q2,q3⟩
 by_cases a6:act=6
 ·subst a6
  rw[qWu rfl]
  go_enter Tryz.func99,Tryz.ntmps99
  obtain⟨hB0,c0,c1,p0,p1,p2,p3,d0,d1,g3⟩:=HX.out _ (Below.refl _ _)
  clear g3
  go_wp2_with fail
  refine (qJ8 u s d _ _ _ (HC.out _ hb0) os (by omega) hd).mono ?_
  rintro e w1 ⟨ve1,vk1,vc1,rfl,hrd1,hsl1,hb1⟩
  obtain⟨Av,nv,Aw,nw,rfl,rfl⟩:=Qj hrd1
  obtain⟨Ac,nc,rfl⟩:=hsl1.shape
  simp only[World.size_alloc]at hrd1 hsl1 hb1
  have hBx:Below (w.heap.size+4) _ w1:=hb1.mono (by omega)
  clear c0 c1 p0 p1 p2 p3 d0 d1
  obtain⟨hB1,c0,c1,p0,p1,p2,p3,d0,d1,hG⟩:=HX.out _ hBx
  have HG:=hid hG
  obtain⟨k0,k1,k2,z0,z1,z2⟩:=bz3 hG
  have HR:=hid hrd1
  have HS:=hid hsl1
  have HB:=hid hB1
  clear hrd1 hsl1 hb1 hBx hG hB1 c0 c1 p0 p1 p2 p3 d0 d1
  go_wp2_with fail
  obtain⟨r0,r1,r2,q1,q2,q3⟩:=QU HG.out HB.out (by omega) (by omega) HR.out HS.out
  exact bodyPost_ret (v:=.tuple #[.agg #[_,_,_],.int .i64 _]) (by simp[results,Tryz.results99,go_sem,r0,r1,r2]<;>rfl) rfl ⟨_,_,_,rfl,q1,q2,q3⟩
 ·have hX:leafX u ⟨path,act,s,n⟩ d=(.mk [] [],disC u d,chkI u d):=by unfold leafX;rw[if_neg a1,if_neg a2,if_neg a3,if_neg a4,if_neg a5,if_neg a6]
  rw[hX]
  have e1:(act==1)=false:=by simpa using a1
  have e2:(act==2)=false:=by simpa using a2
  have e3:(act==3)=false:=by simpa using a3
  have e4:(act==4)=false:=by simpa using a4
  have e5:(act==5)=false:=by simpa using a5
  have e6:(act==6)=false:=by simpa using a6
  go_enter Tryz.func99,Tryz.ntmps99
  obtain⟨hB0,c0,c1,p0,p1,p2,p3,d0,d1,g3⟩:=HX.out _ (Below.refl _ _)
  clear g3
  go_wp2_with fail
  refine (qKj u d _ _ _ (HC.out _ hb0) (by omega) hd).mono ?_
  rintro e w1 ⟨ve1,vk1,vc1,rfl,hrd1,hsl1,hb1⟩
  obtain⟨Av,nv,Aw,nw,rfl,rfl⟩:=Qj hrd1
  obtain⟨Ac,nc,rfl⟩:=hsl1.shape
  simp only[World.size_alloc]at hrd1 hsl1 hb1
  have hBx:Below (w.heap.size+4) _ w1:=hb1.mono (by omega)
  clear c0 c1 p0 p1 p2 p3 d0 d1
  obtain⟨hB1,c0,c1,p0,p1,p2,p3,d0,d1,hG⟩:=HX.out _ hBx
  have HG:=hid hG
  obtain⟨k0,k1,k2,z0,z1,z2⟩:=bz3 hG
  have HR:=hid hrd1
  have HS:=hid hsl1
  have HB:=hid hB1
  clear hrd1 hsl1 hb1 hBx hG hB1 c0 c1 p0 p1 p2 p3 d0 d1
  go_wp2_with fail
  obtain⟨r0,r1,r2,q1,q2,q3⟩:=QU HG.out HB.out (by omega) (by omega) HR.out HS.out
  exact bodyPost_ret (v:=.tuple #[.agg #[_,_,_],.int .i64 _]) (by simp[results,Tryz.results99,go_sem,r0,r1,r2]<;>rfl) rfl ⟨_,_,_,rfl,q1,q2,q3⟩
theorem SlP.takeK {α:Type}{w:World}{B sz:Nat}{E:α->List Value->Prop}{A:Option Addr}{c:Nat}{l:List α}(h:SlP w B sz E (.slice A l.length c) l){k:Nat}(hk:k<=l.length):SlP w B sz E (.slice A k c) (l.take k):=by
 obtain⟨A',c',hv,h1,h2,h3⟩:=h
 cases hv
 have hl:(l.take k).length=k:=by simp;omega
 refine⟨A,c,by rw[hl],by omega,by omega,fun hn=>?_⟩
 obtain⟨b,off,rfl,hB,hc⟩:=h3 (by rintro rfl;simp at hn)
 refine⟨b,off,rfl,hB,fun j x hx=>hc j x ?_⟩
 rw[List.getElem?_take]at hx
 split at hx
 ·exact hx
 ·cases hx
def ofI (a:Int):Int:=if a=1∨a=2 then 1 else if a=3∨a=4 then 2 else if a=5 then 3 else if a=6 then 4 else if a=7 then 0 else -1
theorem zJf (a:Int)(w:World):Calls Tryz.prog 136 #[.int .i64 a] w fun e w'=>e=.returned (.int .i64 (ofI a))/\Below w.heap.size w w':=by
 by_cases hc:a=1∨a=2∨a=3∨a=4∨a=5∨a=6∨a=7
 ·rcases hc with rfl|rfl|rfl|rfl|rfl|rfl|rfl<;>
  (go_enter Tryz.func136,Tryz.ntmps136
   go_wp2_with fail
   go_ret
   exact⟨rfl,Below.refl _ _⟩)
 ·obtain⟨g1,g2,g3,g4,g5,g6,g7⟩:a≠1/\a≠2/\a≠3/\a≠4/\a≠5/\a≠6/\a≠7:=by omega
  have hO:ofI a=-1:=by unfold ofI;rw[if_neg (by omega),if_neg (by omega),if_neg (by omega),if_neg (by omega),if_neg (by omega)]
  rw[hO]
  have d1:decide (a=1)=false:=by simpa using g1
  have d2:decide (a=2)=false:=by simpa using g2
  have d3:decide (a=3)=false:=by simpa using g3
  have d4:decide (a=4)=false:=by simpa using g4
  have d5:decide (a=5)=false:=by simpa using g5
  have d6:decide (a=6)=false:=by simpa using g6
  have d7:decide (a=7)=false:=by simpa using g7
  have e1:(a==1)=false:=by simpa using g1
  have e2:(a==2)=false:=by simpa using g2
  have e3:(a==3)=false:=by simpa using g3
  have e4:(a==4)=false:=by simpa using g4
  have e5:(a==5)=false:=by simpa using g5
  have e6:(a==6)=false:=by simpa using g6
  have e7:(a==7)=false:=by simpa using g7
  clear hc
  go_enter Tryz.func136,Tryz.ntmps136
  go_wp2_with fail
  go_ret
  exact⟨rfl,Below.refl _ _⟩
theorem qZb (a:Int)(w:World):Calls Tryz.prog 104 #[.int .i64 a] w fun e w'=>e=.returned (.bool (Qv a))/\Below w.heap.size w w':=by
 by_cases hc:a=1∨a=2∨a=3∨a=4∨a=5∨a=6∨a=7
 ·rcases hc with rfl|rfl|rfl|rfl|rfl|rfl|rfl<;>
  (go_enter Tryz.func104,Tryz.ntmps104
   go_wp2_with fail
   go_ret
   exact⟨rfl,Below.refl _ _⟩)
 ·obtain⟨g1,g2,g3,g4,g5,g6,g7⟩:a≠1/\a≠2/\a≠3/\a≠4/\a≠5/\a≠6/\a≠7:=by omega
  have hO:Qv a=false:=by unfold Qv;rw[decide_eq_false_iff_not];omega
  rw[hO]
  have d1:decide (a=1)=false:=by simpa using g1
  have d2:decide (a=2)=false:=by simpa using g2
  have d3:decide (a=3)=false:=by simpa using g3
  have d4:decide (a=4)=false:=by simpa using g4
  have d5:decide (a=5)=false:=by simpa using g5
  have d6:decide (a=6)=false:=by simpa using g6
  have d7:decide (a=7)=false:=by simpa using g7
  have e1:(a==1)=false:=by simpa using g1
  have e2:(a==2)=false:=by simpa using g2
  have e3:(a==3)=false:=by simpa using g3
  have e4:(a==4)=false:=by simpa using g4
  have e5:(a==5)=false:=by simpa using g5
  have e6:(a==6)=false:=by simpa using g6
  have e7:(a==7)=false:=by simpa using g7
  clear hc
  go_enter Tryz.func104,Tryz.ntmps104
  go_wp2_with fail
  go_ret
  exact⟨rfl,Below.refl _ _⟩
theorem qUh (a k:Int)(w:World):Calls Tryz.prog 149 #[.int .i64 a,.int .i64 k] w fun e w'=>e=.returned (.bool (actB a k))/\Below w.heap.size w w':=by
 by_cases hc:a=1∨a=2∨a=3∨a=4∨a=5∨a=6∨a=7
 ·rcases hc with rfl|rfl|rfl|rfl|rfl|rfl|rfl<;>
  (go_enter Tryz.func149,Tryz.ntmps149
   go_wp2_with fail
   go_ret
   exact⟨Qf (by unfold actB;simp;try (rw[Bool.eq_iff_iff];simp)),Below.refl _ _⟩)
 ·obtain⟨g1,g2,g3,g4,g5,g6,g7⟩:a≠1/\a≠2/\a≠3/\a≠4/\a≠5/\a≠6/\a≠7:=by omega
  have hO:actB a k=false:=by unfold actB;rw[if_neg (by omega),if_neg (by omega),if_neg (by omega),if_neg (by omega),decide_eq_false_iff_not];omega
  rw[hO]
  have d1:decide (a=1)=false:=by simpa using g1
  have d2:decide (a=2)=false:=by simpa using g2
  have d3:decide (a=3)=false:=by simpa using g3
  have d4:decide (a=4)=false:=by simpa using g4
  have d5:decide (a=5)=false:=by simpa using g5
  have d6:decide (a=6)=false:=by simpa using g6
  have d7:decide (a=7)=false:=by simpa using g7
  have e1:(a==1)=false:=by simpa using g1
  have e2:(a==2)=false:=by simpa using g2
  have e3:(a==3)=false:=by simpa using g3
  have e4:(a==4)=false:=by simpa using g4
  have e5:(a==5)=false:=by simpa using g5
  have e6:(a==6)=false:=by simpa using g6
  have e7:(a==7)=false:=by simpa using g7
  clear hc
  go_enter Tryz.func149,Tryz.ntmps149
  go_wp2_with fail
  go_ret
  exact⟨rfl,Below.refl _ _⟩
theorem qZc {k:ByteArray}(h:0<k.size):kindB k=if ((k[0].toNat:Int)==102)=true then 1 else if ((k[0].toNat:Int)==115)=true then 2 else if ((k[0].toNat:Int)==99)=true then 3 else if ((k[0].toNat:Int)==114)=true then 4 else if ((k[0].toNat:Int)==109)=true then 5 else 0:=by
 obtain⟨⟨l⟩⟩:=k
 cases l with
 |nil=>exact absurd h (by decide)
 |cons b r=>
  have hb:∀ n:UInt8,(((b.toNat:Int)==((n.toNat:Nat):Int))=true)=(b=n):=fun n=>by rw[eq_iff_iff,beq_iff_eq];exact⟨fun h=>UInt8.toNat_inj.1 (by omega),fun h=>by rw[h]⟩
  have e0:(ByteArray.mk ⟨b :: r⟩)[0]=b:=rfl
  have h1:=hb 102
  have h2:=hb 115
  have h3:=hb 99
  have h4:=hb 114
  have h5:=hb 109
  rw[e0]
  unfold kindB
  simp only[show ((102:UInt8).toNat:Int)=102 from rfl,show ((115:UInt8).toNat:Int)=115 from rfl,show ((99:UInt8).toNat:Int)=99 from rfl,show ((114:UInt8).toNat:Int)=114 from rfl,show ((109:UInt8).toNat:Int)=109 from rfl]at h1 h2 h3 h4 h5
  simp only[h1,h2,h3,h4,h5]
theorem qJb {k:ByteArray}(h:¬0<k.size):kindB k=0:=by
 obtain⟨⟨l⟩⟩:=k
 cases l with
 |nil=>rfl
 |cons b r=>exact absurd (show 0<(b :: r).length by simp) h
theorem Kx {k:ByteArray}(h:0<k.size):k.toList.isEmpty=false:=by
 rw[ByteArray.toList_eq]
 obtain⟨⟨l⟩⟩:=k
 cases l with
 |nil=>exact absurd h (by decide)
 |cons b r=>rfl
theorem Ky {k:ByteArray}(h:¬0<k.size):k.toList.isEmpty=true:=by
 rw[ByteArray.toList_eq]
 obtain⟨⟨l⟩⟩:=k
 cases l with
 |nil=>rfl
 |cons b r=>exact absurd (show 0<(b :: r).length by simp) h
theorem Q5 (k:ByteArray)(w:World) :
  Calls Tryz.prog 84 #[.string k] w fun e w'=>e=.returned (.int .i64 (kindB k))/\Below w.heap.size w w':=by
 by_cases h0:0<k.size
 ·have HK:=hid (qZc h0)
  have he:k.toList.isEmpty=false:=Kx h0
  go_enter Tryz.func84,Tryz.ntmps84
  go_wp2_with fail
  all_goals (go_ret;exact⟨Qn (by rw[HK.out];simp_all),Below.refl _ _⟩)
 ·rw[qJb h0]
  have he:k.toList.isEmpty=true:=Ky h0
  go_enter Tryz.func84,Tryz.ntmps84
  go_wp2_with fail
  all_goals (go_ret;exact⟨rfl,Below.refl _ _⟩)
theorem zX7 (x:ByteArray)(w:World)(hx:x.size<=Big):Calls Tryz.prog 126 #[.string x] w fun e w'=>e=.returned (.bool (Q6 x))/\Below w.heap.size w w':=by
 unfold Big at hx
 go_enter Tryz.func126,Tryz.ntmps126
 by_cases hb:30<x.size
 ·go_wp2_with fail
  go_ret
  exact⟨Qf (by unfold Q6;simp[hb]),Below.refl _ _⟩
 ·go_wp2_with fail
  refine (Q5 x _).mono ?_
  rintro e w1 ⟨rfl,hb1⟩
  go_wp2_with fail
  go_ret
  exact⟨Qf (by unfold Q6;rw[Bool.eq_iff_iff];simp[hb];omega),hb1⟩
theorem zX8 (x:ByteArray)(w:World):Calls Tryz.prog 127 #[.string x] w fun e w'=>e=.returned (.bool (noMap x))/\Below w.heap.size w w':=by
 go_enter Tryz.func127,Tryz.ntmps127
 go_wp2_with fail
 refine (Q5 x _).mono ?_
 rintro e w1 ⟨rfl,hb1⟩
 go_wp2_with fail
 go_ret
 exact⟨Qf (by unfold noMap;rw[Bool.eq_iff_iff];simp),hb1⟩
theorem zZa (w:World):JR 126 #[] Q6 w:=⟨enters_of Tryz.func126 (by kernel_rfl) rfl,fun x W hx _=>zX7 x W hx⟩
theorem zZb (w:World):JR 127 #[] noMap w:=⟨enters_of Tryz.func127 (by kernel_rfl) rfl,fun x W _ _=>zX8 x W⟩
theorem XX (p:List ByteArray)(vp:Value)(w:World)(h:SlP w w.heap.size 1 StE vp p) :
  Calls Tryz.prog 82 #[vp] w fun e w'=>e=.returned (.int .i64 (pathI p))/\Below w.heap.size w w':=by
 have HC:Hid (∀ w',Below w.heap.size w w'->SlP w' w'.heap.size 1 StE vp p):=fun w' hb=>h.imp hb hb.size fun _ _ _ h=>h
 obtain⟨A,c,rfl,c1,c2,_⟩:=h
 unfold Big at c2
 go_enter Tryz.func82,Tryz.ntmps82
 by_cases h1:p.length<1
 ·have hP:pathI p=1:=by unfold pathI;rw[if_pos (.inl h1)]
  rw[hP]
  clear hP
  go_wp2_with fail
  go_ret
  exact⟨rfl,Below.refl _ _⟩
 by_cases h3:3<p.length
 ·have hP:pathI p=1:=by unfold pathI;rw[if_pos (.inr (.inl h3))]
  rw[hP]
  clear hP
  go_wp2_with fail
  go_ret
  exact⟨rfl,Below.refl _ _⟩
 go_wp2_with fail
 refine (X8 Q6 _ #[] p _ _ (HC.out _ (Below.refl _ _)) (zZa _)).mono ?_
 cases hq:p.any Q6
 ·rintro e w1 ⟨rfl,hb1⟩
  have hP:pathI p=if p.dropLast.any noMap then 6 else 0:=by unfold pathI;rw[if_neg (by rintro (h|h|h)<;>first|omega|(rw[hq]at h;cases h))]
  have HPI:=hid hP
  have HP:Hid (SlP w1 w1.heap.size 1 StE (.slice A (p.length-1) c) p.dropLast):=by
   rw[List.dropLast_eq_take]
   exact (HC.out _ hb1).takeK (by omega)
  clear hP hq
  go_wp2_with fail
  refine (X8 noMap _ #[] p.dropLast _ _ HP.out (zZb _)).mono ?_
  cases hn:p.dropLast.any noMap
  ·rintro e w2 ⟨rfl,hb2⟩
   have HN:=hid hn
   clear hn
   go_wp2_with fail
   go_ret
   exact⟨Qn (by rw[HPI.out,HN.out];rfl),hb1.trans (hb2.mono hb1.size)⟩
  ·rintro e w2 ⟨rfl,hb2⟩
   have HN:=hid hn
   clear hn
   go_wp2_with fail
   go_ret
   exact⟨Qn (by rw[HPI.out,HN.out];rfl),hb1.trans (hb2.mono hb1.size)⟩
 ·rintro e w1 ⟨rfl,hb1⟩
  have hP:pathI p=1:=by unfold pathI;rw[if_pos (.inr (.inr hq))]
  have HPI:=hid hP
  clear hP hq
  go_wp2_with fail
  go_ret
  exact⟨Qn HPI.out.symm,hb1⟩
theorem Zh {path:List ByteArray}{act n:Int}{s:ByteArray}(hp:pathI path=0)(ha:actB act (kindB (lastK path))=true):opI ⟨path,act,s,n⟩=if opTxt ⟨path,act,s,n⟩&&opNum ⟨path,act,s,n⟩ then 0 else 1:=by
 unfold opI
 simp only
 rw[if_neg (by omega),ha];rfl
theorem Z3 (s:ByteArray):(s.toList=[])=(s.size=0):=by
 rw[eq_iff_iff]
 by_cases h:s.size=0
 ·have:=Ky (k:=s) (by omega);rw[List.isEmpty_iff]at this;simp[this,h]
 ·have:=Kx (k:=s) (by omega);rw[←Bool.not_eq_true,List.isEmpty_iff]at this;exact⟨fun e=>absurd e this,fun e=>absurd e h⟩
theorem tol_f (s:ByteArray):(s.toList.isEmpty=false)=(s.size≠0):=by rw[←Bool.not_eq_true,List.isEmpty_iff,Z3]
theorem tol_t (s:ByteArray):(s.toList.isEmpty=true)=(s.size=0):=by rw[List.isEmpty_iff,Z3]
theorem qUi (o:Opr)(vp:Value)(w:World)(h:SlP w w.heap.size 1 StE vp o.path)(ho:o.Ok) :
  Calls Tryz.prog 97 #[.agg #[vp,.int .i64 o.act,.string o.s,.int .i64 o.n]] w fun e w'=>e=.returned (.int .i64 (opI o))/\Below w.heap.size w w':=by
 have HC:Hid (∀ w',Below w.heap.size w w'->SlP w' w'.heap.size 1 StE vp o.path):=fun w' hb=>h.imp hb hb.size fun _ _ _ h=>h
 obtain⟨A,c,rfl,c1,c2,c3⟩:=h
 have hs:=ho.s
 unfold Big at c2 hs
 obtain⟨path,act,s,n⟩:=o
 simp only at HC c1 c2 c3 hs ⊢
 have HX:Hid (∀ W,Below (w.heap.size+1) (w.alloc (.cells #[.slice A path.length c,.int .i64 act,.string s,.int .i64 n] 65)) W->(Below w.heap.size w W/\SlP W W.heap.size 1 StE (.slice A path.length c) path/\W.cell? ⟨w.heap.size,0,none⟩=some (.slice A path.length c)/\W.cell? ⟨w.heap.size,1,none⟩=some (.int .i64 act)/\W.cell? ⟨w.heap.size,2,none⟩=some (.string s)/\W.cell? ⟨w.heap.size,3,none⟩=some (.int .i64 n))):=fun W hW=>by
  have g0:W.heap[w.heap.size]?=some (.cells #[.slice A path.length c,.int .i64 act,.string s,.int .i64 n] 65 (0,0)):=(hW.block _ (by omega)).trans (Qd rfl)
  have hB:Below w.heap.size w W:=((Below.refl _ w).alloc (Nat.le_refl _) _).trans (hW.mono (by omega))
  exact⟨hB,HC.out _ hB,Qa (i:=0) g0,Qa (i:=1) g0,Qa (i:=2) g0,Qa (i:=3) g0⟩
 go_enter Tryz.func97,Tryz.ntmps97
 go_wp2_with fail
 obtain⟨hB,hp,q0,q1,q2,q3⟩:=HX.out _ (Below.refl _ _)
 refine (XX path _ _ hp).mono ?_
 rintro e w1 ⟨rfl,hb1⟩
 have hbx:Below (w.heap.size+1) (w.alloc (.cells #[.slice A path.length c,.int .i64 act,.string s,.int .i64 n] 65)) w1:=hb1.mono (by simp)
 have HB1:=hid hbx
 clear hB hp q0 q1 q2 q3 hb1 hbx
 obtain⟨hB,hp,q0,q1,q2,q3⟩:=HX.out _ HB1.out
 by_cases hpz:pathI path=0
 ·have hpl:=(Q2 hpz).1
  have hpu:=(Q2 hpz).2.1
  have HPZ:=hid hpz
  rw[hpz]
  clear hpz
  go_wp2_with fail
  refine (zJf act _).mono ?_
  rintro e w2 ⟨rfl,hb2⟩
  have HB2:=hid (HB1.out.trans (hb2.mono (by have:=hB.size;have:=HB1.out.size;simp at this;omega)))
  clear hB hp q0 q1 q2 q3 hb2
  obtain⟨hB,hp,q0,q1,q2,q3⟩:=HX.out _ HB2.out
  rcases (show act=1∨act=2∨act=3∨act=4∨act=5∨act=6∨act=7∨(act≠1/\act≠2/\act≠3/\act≠4/\act≠5/\act≠6/\act≠7) by omega) with rfl|rfl|rfl|rfl|rfl|rfl|rfl|⟨g1,g2,g3,g4,g5,g6,g7⟩
  ·simp only[show ofI 1=1 from rfl]
   obtain⟨bq,offq,hAq,hbq,hcq⟩:=c3 (by rintro rfl;simp at hpl)
   cases hAq
   obtain⟨cs,⟨rfl,hok⟩,_,hu⟩:=hcq (path.length-1) _ (Z1 hpl)
   have e0:=(hB.cell (p:=⟨bq,offq+(path.length-1),none⟩) hbq).trans (by simpa using hu 0 _ rfl)
   clear hu hcq c3
   go_wp2_with fail
   refine (Q5 (lastK path) _).mono ?_
   by_cases hk:kindB (lastK path)=1
   ·rw[hk]
    rintro e w3 ⟨rfl,hb3⟩
    have HA:Hid (actB 1 (kindB (lastK path))=true):=by unfold Hid actB;rw[hk];simp
    have HB3:=hid (HB2.out.trans (hb3.mono (by have:=hB.size;have:=HB2.out.size;simp at this;omega)))
    clear hB hp q0 q1 q2 q3 hb3 e0 hk
    obtain⟨hB,hp,q0,q1,q2,q3⟩:=HX.out _ HB3.out
    have HE:Hid (∀ (s:ByteArray) (n:Int),opI ⟨path,1,s,n⟩=if s.size=0/\n=0 then 0 else 1):=by
     intro s n
     rw[Zh HPZ.out HA.out]
     unfold opTxt opNum keyB
     simp
    go_wp2_with fail
    all_goals (go_ret;refine⟨Qn ?_,hB⟩;rw[HE.out])
    all_goals ((try simp only[Z3]at *);(try simp only[tol_f]at *);(try simp only[tol_t]at *))
    all_goals (first|(exfalso;omega)|(rw[if_pos (by omega)];done)|(rw[if_neg (by omega)];done))
   ·have hn:((1:Int)==kindB (lastK path))=false:=by simpa using fun h=>hk h.symm
    have HO:Hid (opI ⟨path,1,s,n⟩=6):=by unfold Hid opI;simp only;rw[if_neg (by rw[HPZ.out];simp),if_pos (by unfold actB;simp[hk])]
    rintro e w3 ⟨rfl,hb3⟩
    have hB3:=hB.trans (hb3.mono hB.size)
    clear hk
    go_wp2_with fail
    go_ret
    exact⟨Qn HO.out.symm,hB3⟩
  ·simp only[show ofI 2=1 from rfl]
   obtain⟨bq,offq,hAq,hbq,hcq⟩:=c3 (by rintro rfl;simp at hpl)
   cases hAq
   obtain⟨cs,⟨rfl,hok⟩,_,hu⟩:=hcq (path.length-1) _ (Z1 hpl)
   have e0:=(hB.cell (p:=⟨bq,offq+(path.length-1),none⟩) hbq).trans (by simpa using hu 0 _ rfl)
   clear hu hcq c3
   go_wp2_with fail
   refine (Q5 (lastK path) _).mono ?_
   by_cases hk:kindB (lastK path)=1
   ·rw[hk]
    rintro e w3 ⟨rfl,hb3⟩
    have HA:Hid (actB 2 (kindB (lastK path))=true):=by unfold Hid actB;rw[hk];simp
    have HB3:=hid (HB2.out.trans (hb3.mono (by have:=hB.size;have:=HB2.out.size;simp at this;omega)))
    clear hB hp q0 q1 q2 q3 hb3 e0 hk
    obtain⟨hB,hp,q0,q1,q2,q3⟩:=HX.out _ HB3.out
    have HE:Hid (∀ (s:ByteArray) (n:Int),opI ⟨path,2,s,n⟩=if s.size=0/\n=0 then 0 else 1):=by
     intro s n
     rw[Zh HPZ.out HA.out]
     unfold opTxt opNum keyB
     simp
    go_wp2_with fail
    all_goals (go_ret;refine⟨Qn ?_,hB⟩;rw[HE.out])
    all_goals ((try simp only[Z3]at *);(try simp only[tol_f]at *);(try simp only[tol_t]at *))
    all_goals (first|(exfalso;omega)|(rw[if_pos (by omega)];done)|(rw[if_neg (by omega)];done))
   ·have hn:((1:Int)==kindB (lastK path))=false:=by simpa using fun h=>hk h.symm
    have HO:Hid (opI ⟨path,2,s,n⟩=6):=by unfold Hid opI;simp only;rw[if_neg (by rw[HPZ.out];simp),if_pos (by unfold actB;simp[hk])]
    rintro e w3 ⟨rfl,hb3⟩
    have hB3:=hB.trans (hb3.mono hB.size)
    clear hk
    go_wp2_with fail
    go_ret
    exact⟨Qn HO.out.symm,hB3⟩
  ·simp only[show ofI 3=2 from rfl]
   obtain⟨bq,offq,hAq,hbq,hcq⟩:=c3 (by rintro rfl;simp at hpl)
   cases hAq
   obtain⟨cs,⟨rfl,hok⟩,_,hu⟩:=hcq (path.length-1) _ (Z1 hpl)
   have e0:=(hB.cell (p:=⟨bq,offq+(path.length-1),none⟩) hbq).trans (by simpa using hu 0 _ rfl)
   clear hu hcq c3
   go_wp2_with fail
   refine (Q5 (lastK path) _).mono ?_
   by_cases hk:kindB (lastK path)=2
   ·rw[hk]
    rintro e w3 ⟨rfl,hb3⟩
    have HA:Hid (actB 3 (kindB (lastK path))=true):=by unfold Hid actB;rw[hk];simp
    have HB3:=hid (HB2.out.trans (hb3.mono (by have:=hB.size;have:=HB2.out.size;simp at this;omega)))
    clear hB hp q0 q1 q2 q3 hb3 e0 hk
    obtain⟨hB,hp,q0,q1,q2,q3⟩:=HX.out _ HB3.out
    have HE:Hid (∀ (s:ByteArray) (n:Int),opI ⟨path,3,s,n⟩=if (1<=s.size/\s.size<=30)/\n=0 then 0 else 1):=by
     intro s n
     rw[Zh HPZ.out HA.out]
     unfold opTxt opNum keyB
     simp
    go_wp2_with fail
    all_goals (go_ret;refine⟨Qn ?_,hB⟩;rw[HE.out])
    all_goals ((try simp only[tol_f]at *);(try simp only[tol_t]at *))
    all_goals (first|(exfalso;omega)|(rw[if_pos (by omega)];done)|(rw[if_neg (by omega)];done))
   ·have hn:((2:Int)==kindB (lastK path))=false:=by simpa using fun h=>hk h.symm
    have HO:Hid (opI ⟨path,3,s,n⟩=6):=by unfold Hid opI;simp only;rw[if_neg (by rw[HPZ.out];simp),if_pos (by unfold actB;simp[hk])]
    rintro e w3 ⟨rfl,hb3⟩
    have hB3:=hB.trans (hb3.mono hB.size)
    clear hk
    go_wp2_with fail
    go_ret
    exact⟨Qn HO.out.symm,hB3⟩
  ·simp only[show ofI 4=2 from rfl]
   obtain⟨bq,offq,hAq,hbq,hcq⟩:=c3 (by rintro rfl;simp at hpl)
   cases hAq
   obtain⟨cs,⟨rfl,hok⟩,_,hu⟩:=hcq (path.length-1) _ (Z1 hpl)
   have e0:=(hB.cell (p:=⟨bq,offq+(path.length-1),none⟩) hbq).trans (by simpa using hu 0 _ rfl)
   clear hu hcq c3
   go_wp2_with fail
   refine (Q5 (lastK path) _).mono ?_
   by_cases hk:kindB (lastK path)=2
   ·rw[hk]
    rintro e w3 ⟨rfl,hb3⟩
    have HA:Hid (actB 4 (kindB (lastK path))=true):=by unfold Hid actB;rw[hk];simp
    have HB3:=hid (HB2.out.trans (hb3.mono (by have:=hB.size;have:=HB2.out.size;simp at this;omega)))
    clear hB hp q0 q1 q2 q3 hb3 e0 hk
    obtain⟨hB,hp,q0,q1,q2,q3⟩:=HX.out _ HB3.out
    have HE:Hid (∀ (s:ByteArray) (n:Int),opI ⟨path,4,s,n⟩=if (1<=s.size/\s.size<=30)/\n=0 then 0 else 1):=by
     intro s n
     rw[Zh HPZ.out HA.out]
     unfold opTxt opNum keyB
     simp
    go_wp2_with fail
    all_goals (go_ret;refine⟨Qn ?_,hB⟩;rw[HE.out])
    all_goals ((try simp only[tol_f]at *);(try simp only[tol_t]at *))
    all_goals (first|(exfalso;omega)|(rw[if_pos (by omega)];done)|(rw[if_neg (by omega)];done))
   ·have hn:((2:Int)==kindB (lastK path))=false:=by simpa using fun h=>hk h.symm
    have HO:Hid (opI ⟨path,4,s,n⟩=6):=by unfold Hid opI;simp only;rw[if_neg (by rw[HPZ.out];simp),if_pos (by unfold actB;simp[hk])]
    rintro e w3 ⟨rfl,hb3⟩
    have hB3:=hB.trans (hb3.mono hB.size)
    clear hk
    go_wp2_with fail
    go_ret
    exact⟨Qn HO.out.symm,hB3⟩
  ·simp only[show ofI 5=3 from rfl]
   obtain⟨bq,offq,hAq,hbq,hcq⟩:=c3 (by rintro rfl;simp at hpl)
   cases hAq
   obtain⟨cs,⟨rfl,hok⟩,_,hu⟩:=hcq (path.length-1) _ (Z1 hpl)
   have e0:=(hB.cell (p:=⟨bq,offq+(path.length-1),none⟩) hbq).trans (by simpa using hu 0 _ rfl)
   clear hu hcq c3
   go_wp2_with fail
   refine (Q5 (lastK path) _).mono ?_
   by_cases hk:kindB (lastK path)=3
   ·rw[hk]
    rintro e w3 ⟨rfl,hb3⟩
    have HA:Hid (actB 5 (kindB (lastK path))=true):=by unfold Hid actB;rw[hk];simp
    have HB3:=hid (HB2.out.trans (hb3.mono (by have:=hB.size;have:=HB2.out.size;simp at this;omega)))
    clear hB hp q0 q1 q2 q3 hb3 e0 hk
    obtain⟨hB,hp,q0,q1,q2,q3⟩:=HX.out _ HB3.out
    have HE:Hid (∀ (s:ByteArray) (n:Int),opI ⟨path,5,s,n⟩=if s.size=0/\-1099511627776<=n/\n<=1099511627776 then 0 else 1):=by
     intro s n
     rw[Zh HPZ.out HA.out]
     unfold opTxt opNum keyB
     simp
    go_wp2_with fail
    all_goals (go_ret;refine⟨Qn ?_,hB⟩;rw[HE.out])
    all_goals ((try simp only[Z3]at *);(try simp only[tol_f]at *);(try simp only[tol_t]at *))
    all_goals (first|(exfalso;omega)|(rw[if_pos (by omega)];done)|(rw[if_neg (by omega)];done))
   ·have hn:((3:Int)==kindB (lastK path))=false:=by simpa using fun h=>hk h.symm
    have HO:Hid (opI ⟨path,5,s,n⟩=6):=by unfold Hid opI;simp only;rw[if_neg (by rw[HPZ.out];simp),if_pos (by unfold actB;simp[hk])]
    rintro e w3 ⟨rfl,hb3⟩
    have hB3:=hB.trans (hb3.mono hB.size)
    clear hk
    go_wp2_with fail
    go_ret
    exact⟨Qn HO.out.symm,hB3⟩
  ·simp only[show ofI 6=4 from rfl]
   obtain⟨bq,offq,hAq,hbq,hcq⟩:=c3 (by rintro rfl;simp at hpl)
   cases hAq
   obtain⟨cs,⟨rfl,hok⟩,_,hu⟩:=hcq (path.length-1) _ (Z1 hpl)
   have e0:=(hB.cell (p:=⟨bq,offq+(path.length-1),none⟩) hbq).trans (by simpa using hu 0 _ rfl)
   clear hu hcq c3
   go_wp2_with fail
   refine (Q5 (lastK path) _).mono ?_
   by_cases hk:kindB (lastK path)=4
   ·rw[hk]
    rintro e w3 ⟨rfl,hb3⟩
    have HA:Hid (actB 6 (kindB (lastK path))=true):=by unfold Hid actB;rw[hk];simp
    have HB3:=hid (HB2.out.trans (hb3.mono (by have:=hB.size;have:=HB2.out.size;simp at this;omega)))
    clear hB hp q0 q1 q2 q3 hb3 e0 hk
    obtain⟨hB,hp,q0,q1,q2,q3⟩:=HX.out _ HB3.out
    have HE:Hid (∀ (s:ByteArray) (n:Int),opI ⟨path,6,s,n⟩=if s.size<=30/\n=0 then 0 else 1):=by
     intro s n
     rw[Zh HPZ.out HA.out]
     unfold opTxt opNum keyB
     simp
    go_wp2_with fail
    all_goals (go_ret;refine⟨Qn ?_,hB⟩;rw[HE.out])
    skip
    all_goals (first|(exfalso;omega)|(rw[if_pos (by omega)];done)|(rw[if_neg (by omega)];done))
   ·have hn:((4:Int)==kindB (lastK path))=false:=by simpa using fun h=>hk h.symm
    have HO:Hid (opI ⟨path,6,s,n⟩=6):=by unfold Hid opI;simp only;rw[if_neg (by rw[HPZ.out];simp),if_pos (by unfold actB;simp[hk])]
    rintro e w3 ⟨rfl,hb3⟩
    have hB3:=hB.trans (hb3.mono hB.size)
    clear hk
    go_wp2_with fail
    go_ret
    exact⟨Qn HO.out.symm,hB3⟩
  ·simp only[show ofI 7=0 from rfl]
   have HA:Hid (actB 7 (kindB (lastK path))=true):=rfl
   have HE:Hid (∀ (s:ByteArray) (n:Int),opI ⟨path,7,s,n⟩=if s.size=0/\n=0 then 0 else 1):=by
    intro s n
    rw[Zh HPZ.out HA.out]
    unfold opTxt opNum keyB
    simp
   go_wp2_with fail
   all_goals (go_ret;refine⟨Qn ?_,hB⟩;rw[HE.out])
   all_goals ((try simp only[Z3]at *);(try simp only[tol_f]at *);(try simp only[tol_t]at *))
   all_goals (first|(exfalso;omega)|(rw[if_pos (by omega)];done)|(rw[if_neg (by omega)];done))
  ·have hO:ofI act=-1:=by unfold ofI;rw[if_neg (by omega),if_neg (by omega),if_neg (by omega),if_neg (by omega),if_neg (by omega)]
   rw[hO]
   have HO:Hid (opI ⟨path,act,s,n⟩=6):=by
    unfold Hid opI;simp only
    rw[if_neg (by rw[HPZ.out];simp),if_pos]
    unfold actB
    rw[if_neg (by omega),if_neg (by omega),if_neg (by omega),if_neg (by omega)]
    simp[g7]
   go_wp2_with fail
   go_ret
   exact⟨Qn HO.out.symm,hB⟩
 ·have hO:Hid (opI ⟨path,act,s,n⟩=pathI path):=by unfold Hid opI;simp only;rw[if_pos hpz]
  have hne:(pathI path==0)=false:=by simpa using hpz
  have hne':(pathI path != 0)=true:=by simpa using hpz
  clear hpz
  go_wp2_with fail
  go_ret
  exact⟨Qn hO.out.symm,hB⟩
end Go.Proofs.YtbcoelggdikipaaGreat
