/- What the laws need. No condition but those that each lemma states. -/
import Derived.Test.YtbcoelggdikipaaGreatUw9
import Derived.Test.YtbcoelggdikipaaGreatUw11
import Derived.Test.YtbcoelggdikipaaGreatUw7
import Derived.Test.YtbcoelggdikipaaGreatUw2
import Derived.Test.YtbcoelggdikipaaGreatUw10
import Derived.Test.YtbcoelggdikipaaGreatUw1
set_option maxRecDepth 100000
set_option maxHeartbeats 8000000
set_option linter.unusedSimpArgs false
namespace Go.Proofs.YtbcoelggdikipaaGreat
open Go.RowKit
def mxI (p q:Int):Int:=max p q
def mnI (p q:Int):Int:=min p q
def meetL:List (Int×Int)->List (Int×Int)->List (Int×Int)
 |x :: a,y :: b=>(if mxI x.1 y.1<=mnI x.2 y.2 then [(mxI x.1 y.1,mnI x.2 y.2)] else [])++(if x.2<y.2 then meetL a (y :: b) else meetL (x :: a) b)
 |[],_=>[]
 |_ :: _,[]=>[]
termination_by a b=>a.length+b.length
theorem Kv (b:List (Int×Int)):meetL [] b=[]:=by unfold meetL;rfl
theorem Jm (a:List (Int×Int)):meetL a []=[]:=by cases a<;>(unfold meetL;rfl)
theorem Jn (x y:Int×Int)(a b:List (Int×Int)):meetL (x :: a) (y :: b)=(if mxI x.1 y.1<=mnI x.2 y.2 then [(mxI x.1 y.1,mnI x.2 y.2)] else [])++(if x.2<y.2 then meetL a (y :: b) else meetL (x :: a) b):=by rw[meetL]
theorem mx_le {p q n:Int}:mxI p q<=n↔p<=n/\q<=n:=by unfold mxI;omega
theorem le_mn {p q n:Int}:n<=mnI p q↔n<=p/\n<=q:=by unfold mnI;omega
theorem VK (n:Int):∀ (m:Nat) (a b:List (Int×Int)) (p q:Option Int),a.length+b.length<=m->runsR p a=true->runsR q b=true->hasL (meetL a b) n=(hasL a n&&hasL b n)
 |_,[],b,_,_,_,_,_=>by rw[Kv];simp[hasL]
 |_,x :: a,[],_,_,_,_,_=>by rw[Jm];simp[hasL]
 |0,x :: a,y :: b,_,_,h,_,_=>by simp at h
 |m+1,x :: a,y :: b,p,q,h,ha,hb=>by
  have ha':=(Qo _ _ _).1 ha
  have hb':=(Qo _ _ _).1 hb
  obtain⟨hx,_,hal⟩:=ha'
  obtain⟨hy,_,hbl⟩:=hb'
  unfold runOk at hx hy
  have g1:=Jx a x.2 n hal
  have g2:=Jx b y.2 n hbl
  simp only[List.length_cons]at h
  rw[Jn,qQk]
  have hhd:hasL (if mxI x.1 y.1<=mnI x.2 y.2 then [(mxI x.1 y.1,mnI x.2 y.2)] else []) n=(inR x n&&inR y n):=by
   have h1:hasL (if mxI x.1 y.1<=mnI x.2 y.2 then [(mxI x.1 y.1,mnI x.2 y.2)] else []) n=(decide (mxI x.1 y.1<=mnI x.2 y.2)&&inR (mxI x.1 y.1,mnI x.2 y.2) n):=by
    split<;>rename_i hc<;>simp[hasL,hc]
   rw[h1,Bool.eq_iff_iff]
   simp only[Bool.and_eq_true,decide_eq_true_eq,inR,mx_le,le_mn]
   omega
  rw[hhd,Zt,Zt]
  split
  ·rename_i hlt
   have g3:inR x n=true->hasL b n=true->False:=fun h1 h2=>by
    have:=g2 h2
    simp only[inR,Bool.and_eq_true,decide_eq_true_eq]at h1
    omega
   rw[VK n m a (y :: b) _ _ (by simp;omega) hal hb,Zt]
   cases e1:inR x n<;>cases e2:inR y n<;>cases e3:hasL a n<;>cases e4:hasL b n<;>first|rfl|exact absurd (g3 e1 e4) not_false
  ·rename_i hlt
   have g3:inR y n=true->hasL a n=true->False:=fun h1 h2=>by
    have:=g1 h2
    simp only[inR,Bool.and_eq_true,decide_eq_true_eq]at h1
    omega
   rw[VK n m (x :: a) b _ _ (by simp;omega) ha hbl,Zt]
   cases e1:inR x n<;>cases e2:inR y n<;>cases e3:hasL a n<;>cases e4:hasL b n<;>first|rfl|exact absurd (g3 e2 e3) not_false
theorem Kx:∀ (m:Nat) (a b:List (Int×Int)) (p q r:Option Int),a.length+b.length<=m->runsR p a=true->runsR q b=true->(runsR r a=true∨runsR r b=true)->runsR r (meetL a b)=true
 |_,[],b,_,_,r,_,_,_,_=>by rw[Kv];cases r<;>rfl
 |_,x :: a,[],_,_,r,_,_,_,_=>by rw[Jm];cases r<;>rfl
 |0,x :: a,y :: b,_,_,_,h,_,_,_=>by simp at h
 |m+1,x :: a,y :: b,p,q,r,h,ha,hb,hr=>by
  obtain⟨hx,_,hal⟩:=(Qo _ _ _).1 ha
  obtain⟨hy,_,hbl⟩:=(Qo _ _ _).1 hb
  unfold runOk at hx hy
  simp only[List.length_cons]at h
  rw[Jn]
  have hrest:∀ z:Option Int,(runsR z (x :: a)=true∨runsR z (y :: b)=true∨(z=some (mnI x.2 y.2)))->runsR z (if x.2<y.2 then meetL a (y :: b) else meetL (x :: a) b)=true:=fun z hz=>by
   split
   ·rename_i hlt
    refine Kx m a (y :: b) _ _ z (by simp;omega) hal hb ?_
    rcases hz with hz|hz|hz
    ·refine .inl (qZv hal z fun q' e=>?_)
     subst e
     have:=((Qo _ _ _).1 hz).2.1
     simp only[okR,decide_eq_true_eq]at this;omega
    ·exact .inr hz
    ·subst hz
     refine .inl ?_
     have e:mnI x.2 y.2=x.2:=by unfold mnI;omega
     rw[e];exact hal
   ·rename_i hlt
    refine Kx m (x :: a) b _ _ z (by simp;omega) ha hbl ?_
    rcases hz with hz|hz|hz
    ·exact .inl hz
    ·refine .inr (qZv hbl z fun q' e=>?_)
     subst e
     have:=((Qo _ _ _).1 hz).2.1
     simp only[okR,decide_eq_true_eq]at this;omega
    ·subst hz
     refine .inr ?_
     have e:mnI x.2 y.2=y.2:=by unfold mnI;omega
     rw[e];exact hbl
  split
  ·rename_i hle
   rw[List.singleton_append,Qo]
   have hok:∀ z:Option Int,r=z->okR z (mxI x.1 y.1)=true:=fun z e=>by
    cases z with
    |none=>rfl
    |some z=>
     subst e
     simp only[okR,decide_eq_true_eq]
     unfold mxI
     rcases hr with hr|hr
     ·have:=((Qo _ _ _).1 hr).2.1
      simp only[okR,decide_eq_true_eq]at this
      omega
     ·have:=((Qo _ _ _).1 hr).2.1
      simp only[okR,decide_eq_true_eq]at this
      omega
   refine⟨?_,hok r rfl,hrest _ (.inr (.inr rfl))⟩
   unfold runOk mxI mnI
   unfold mxI mnI at hle
   simp only
   exact⟨by omega,hle,by omega⟩
  ·rw[List.nil_append]
   refine hrest r ?_
   rcases hr with hr|hr
   ·exact .inl hr
   ·exact .inr (.inl hr)
theorem qUa {a b:List (Int×Int)}(ha:runsR none a=true)(hb:runsR none b=true):meetL a b=byL a b 1:=by
 have h:=Yi (a:=a) (b:=b) 1 (Zc a none ha) (Zc b none hb)
 refine YF _ _ none none (Kx _ a b none none none (Nat.le_refl _) ha hb (.inl ha)) h.1 fun n=>?_
 rw[VK n _ a b none none (Nat.le_refl _) ha hb,h.2 n]
 simp[inn]
theorem qUb {a b:List (Int×Int)}{i k:Nat}{x y:Int×Int}(hx:a[i]?=some x)(hy:b[k]?=some y):meetL (a.drop i) (b.drop k)=(if mxI x.1 y.1<=mnI x.2 y.2 then [(mxI x.1 y.1,mnI x.2 y.2)] else [])++(if x.2<y.2 then meetL (a.drop (i+1)) (b.drop k) else meetL (a.drop i) (b.drop (k+1))):=by
 rw[QJ hx,QJ hy,Jn]
theorem qUc (a b:List (Int×Int))(va vb:Value)(w:World)(ha:SlP w w.heap.size 2 RuE va a)(hb:SlP w w.heap.size 2 RuE vb b)(hra:runsR none a=true)(hrb:runsR none b=true)(hN:(meetL a b).length<=900000) :
  Calls Tryz.prog 94 #[va,vb] w (RetO w 167 2 (fun _=>RuE) (meetL a b)):=by
 have HA:=hid ha
 have HB:=hid hb
 have HRA:=hid hra
 have HRB:=hid hrb
 obtain⟨A1,c1,rfl,a1,a2,a3⟩:=ha
 obtain⟨A2,c2,rfl,b1,b2,b3⟩:=hb
 unfold Big at a2 b2
 clear hra hrb
 go_enter Tryz.func94,Tryz.ntmps94
 go_wp2_with fail
 refine (J9 a b _ _ w HA.out HB.out).mono ?_
 rw[HRA.out,HRB.out]
 rintro e w1 ⟨rfl,hb1⟩
 have hs1:=hb1.size
 go_wp2_with fail
 go_loopw [5,6,7] (fun v i k wr=>∃ (p q:Nat) (os:List (Int×Int)),p<=a.length/\q<=b.length/\i=.int .i64 p/\k=.int .i64 q/\OwnP wr w1.heap.size 167 2 RuE v os/\Hid (os++meetL (a.drop p) (b.drop q)=meetL a b)/\Below w1.heap.size w1 wr) (fun _ i k _=>(a.length-(intOf i).toNat)+(b.length-(intOf k).toNat))
 case atStart=>exact⟨0,0,[],Nat.zero_le _,Nat.zero_le _,rfl,rfl,OwnP.nil,by unfold Hid;simp,Below.refl _ _⟩
 case round=>
  obtain⟨p,q,os,hp,hq,rfl,rfl,hown,HOS,hbr⟩:=hrel
  have hsz:=hbr.size
  have hB0:Below w.heap.size w wr:=hb1.trans (hbr.mono hs1)
  by_cases hlp:p<a.length
  case neg=>
   have e1:p=a.length:=by omega
   have hend:os=meetL a b:=by
    have h:=HOS.out
    rw[e1,List.drop_length,Kv,List.append_nil]at h;exact h
   have HEN:=hid hend
   have hi1:¬((p:Int)<(a.length:Int)):=by omega
   clear hend
   go_wp2_with fail
   go_ret
   exact⟨_,rfl,by rw[←HEN.out];exact hown.mono hs1,hB0⟩
  by_cases hlq:q<b.length
  case neg=>
   have e1:q=b.length:=by omega
   have hend:os=meetL a b:=by
    have h:=HOS.out
    rw[e1,List.drop_length,Jm,List.append_nil]at h;exact h
   have HEN:=hid hend
   have hi1:((p:Int)<(a.length:Int)):=by omega
   have hi2:¬((q:Int)<(b.length:Int)):=by omega
   clear hend
   go_wp2_with fail
   go_ret
   exact⟨_,rfl,by rw[←HEN.out];exact hown.mono hs1,hB0⟩
  obtain⟨x,hx⟩:∃ x,a[p]?=some x:=⟨_,List.getElem?_eq_getElem hlp⟩
  obtain⟨y,hy⟩:∃ y,b[q]?=some y:=⟨_,List.getElem?_eq_getElem hlq⟩
  obtain⟨ba,oa,rfl,hbA,hc⟩:=a3 (by rintro rfl;simp at hlp)
  obtain⟨bb,ob,rfl,hbB,hd⟩:=b3 (by rintro rfl;simp at hlq)
  obtain⟨cs,⟨rfl,hok⟩,_,hu⟩:=hc p _ hx
  obtain⟨ds,⟨rfl,hok2⟩,_,hv⟩:=hd q _ hy
  have e0:wr.cell? ⟨ba,oa+p*2,none⟩=some (.int .i64 x.1):=(hB0.cell hbA).trans (hu 0 _ rfl)
  have e1:wr.cell? ⟨ba,oa+p*2+1,none⟩=some (.int .i64 x.2):=(hB0.cell hbA).trans (hu 1 _ rfl)
  have f0:wr.cell? ⟨bb,ob+q*2,none⟩=some (.int .i64 y.1):=(hB0.cell hbB).trans (hv 0 _ rfl)
  have f1:wr.cell? ⟨bb,ob+q*2+1,none⟩=some (.int .i64 y.2):=(hB0.cell hbB).trans (hv 1 _ rfl)
  have hi1:((p:Int))<(a.length:Int):=by omega
  have hi2:((q:Int))<(b.length:Int):=by omega
  have hstep:=qUb hx hy
  have hx1:I64 x.1:=hok.1
  have hx2:I64 x.2:=hok.2
  have hy1:I64 y.1:=hok2.1
  have hy2:I64 y.2:=hok2.2
  have HTL:Hid (∀ os':List (Int×Int),os'=os++(if mxI x.1 y.1<=mnI x.2 y.2 then [(mxI x.1 y.1,mnI x.2 y.2)] else [])->os'++(if x.2<y.2 then meetL (a.drop (p+1)) (b.drop q) else meetL (a.drop p) (b.drop (q+1)))=meetL a b):=fun os' e=>by
   rw[e,List.append_assoc,←hstep];exact HOS.out
  clear hu hv hc hd a3 b3 hx hy hok hok2 hstep HOS
  unfold I64 at hx1 hx2 hy1 hy2
  by_cases hle:mxI x.1 y.1<=mnI x.2 y.2
  ·rw[if_pos hle]at HTL
   have hle2:max x.1 y.1<=min x.2 y.2:=hle
   have HRE:Hid (RuE (mxI x.1 y.1,mnI x.2 y.2) [.int .i64 (max x.1 y.1),.int .i64 (min x.2 y.2)]):=⟨rfl,by show I64 (mxI x.1 y.1);unfold mxI I64;omega,by show I64 (mnI x.2 y.2);unfold mnI I64;omega⟩
   have HL:Hid (os.length + [((mxI x.1 y.1,mnI x.2 y.2):Int×Int)].length<=Few):=by
    have h:=congrArg List.length (HTL.out _ rfl)
    unfold Hid Few;simp at h ⊢;omega
   have HBR:=hid hbr
   have HCE:Hid (∀ W,Below w1.heap.size wr W->(W.cell? ⟨ba,oa+p*2+1,none⟩=some (.int .i64 x.2)/\W.cell? ⟨bb,ob+q*2+1,none⟩=some (.int .i64 y.2))):=fun W hW=>⟨(hW.cell (p:=⟨ba,oa+p*2+1,none⟩) (Nat.lt_of_lt_of_le hbA hs1)).trans e1,(hW.cell (p:=⟨bb,ob+q*2+1,none⟩) (Nat.lt_of_lt_of_le hbB hs1)).trans f1⟩
   clear hle
   go_wp2_with fail
   go_quiet (fail)
   go_wp2_with (at_builtin;go_loud (refine Qk rfl (.tmp 49) (.tmp 53) _ rfl eiRun (by decide) (by decide) (fun _ _ h=>h.one) rfl ((hown.drewN _).alloc _) rfl (SlP.one (x:=(mxI x.1 y.1,mnI x.2 y.2)) HRE.out rfl _ (by rw[World.heap_drewN])) HL.out (by rw[World.size_alloc,World.heap_drewN];omega) ?_);intro v1 w4 hown4 hb4 _)
   have hb5:Below w1.heap.size wr w4:=((Z1 (Below.refl w1.heap.size wr) _).alloc (by rw[World.heap_drewN];omega) _).trans hb4
   have HB5:=hid hb5
   have hs5:=hb5.size
   clear e0 e1 f0 f1
   obtain⟨e1,f1⟩:=HCE.out _ hb5
   clear hb4 hb5
   by_cases hxy:x.2<y.2
   ·rw[if_pos hxy]at HTL
    go_wp2_with fail
    go_quiet (fail)
    go_wp2_with fail
    go_roundw
    case rel=>exact⟨p+1,q,_,by omega,hq,by go_num,by go_num,hown4.drewN _,HTL.out _ rfl,Z1 (HBR.out.trans HB5.out) _⟩
    case measure=>simp[intOf];omega
   ·rw[if_neg hxy]at HTL
    go_wp2_with fail
    go_quiet (fail)
    go_wp2_with fail
    go_roundw
    case rel=>exact⟨p,q+1,_,hp,by omega,by go_num,by go_num,hown4.drewN _,HTL.out _ rfl,Z1 (HBR.out.trans HB5.out) _⟩
    case measure=>simp[intOf];omega
  ·rw[if_neg hle]at HTL
   have hle2:¬max x.1 y.1<=min x.2 y.2:=hle
   have hle3:min x.2 y.2<max x.1 y.1:=by omega
   have HBR:=hid hbr
   clear hle
   by_cases hxy:x.2<y.2
   ·rw[if_pos hxy]at HTL
    go_wp2_with fail
    go_quiet (fail)
    go_wp2_with fail
    go_quiet (fail)
    go_wp2_with fail
    go_roundw
    case rel=>exact⟨p+1,q,os,by omega,hq,by go_num,by go_num,hown.drewN _,HTL.out _ (List.append_nil _).symm,Z1 HBR.out _⟩
    case measure=>simp[intOf];omega
   ·rw[if_neg hxy]at HTL
    go_wp2_with fail
    go_quiet (fail)
    go_wp2_with fail
    go_quiet (fail)
    go_wp2_with fail
    go_roundw
    case rel=>exact⟨p,q+1,os,hp,by omega,by go_num,by go_num,hown.drewN _,HTL.out _ (List.append_nil _).symm,Z1 HBR.out _⟩
    case measure=>simp[intOf];omega
theorem qUd {a b:List (Int×Int)}(ha:runsR none a=true)(hb:runsR none b=true):(meetL a b).length<=2*a.length+2*b.length+1:=by rw[qUa ha hb];exact JJ a b 1
theorem qUe:Vy 94 1:=
 ⟨enters_of Tryz.func94 (by kernel_rfl) rfl,fun a b va vb W ha hb hra hrb hN hN'=>by
  rw[←qUa hra hrb]
  exact qUc a b va vb W ha hb hra hrb (by have:=qUd hra hrb;omega)⟩
theorem qUf (a b:List Sp)(va vb:Value)(w:World)(ha:SlP w w.heap.size 3 SpE va a)(hb:SlP w w.heap.size 3 SpE vb b)(hra:Qm a=true)(hrb:Qm b=true)(hN:a.length<=20000)(hN':b.length<=20000) :
  Calls Tryz.prog 58 #[va,vb] w (RetO w 45 3 (fun _=>SpE) (ctxBy a b 1)):=by
 go_enter Tryz.func58,Tryz.ntmps58
 go_wp2_with fail
 refine (qZp a b 1 _ qUe va vb w ha hb hra hrb hN hN').mono ?_
 rintro e w1 ⟨v,rfl,h⟩
 go_wp2_with fail
 go_ret
 exact⟨v,rfl,h⟩
theorem qY6 {c:List Sp}(h:Qm c=true):0<c.length↔∃ d,hasC c d=true:=by
 constructor
 ·intro hl
  obtain⟨s,hs⟩:∃ s,s∈c:=by
   rcases c with _|⟨s,c⟩
   ·simp at hl
   ·exact⟨s,by simp⟩
  have hd:=ZQ c 0 (by unfold Qm at h;simp at h;exact h.1) s hs
  obtain⟨i,hi⟩:∃ i:Nat,(i:Int)=s.dc:=⟨s.dc.toNat,by omega⟩
  have hm:(s.fr,s.hi)∈partL c (i:Int):=by
   unfold partL
   exact List.mem_map.2 ⟨s,List.mem_filter.2 ⟨hs,by simp[hi]⟩,rfl⟩
  have hr:=Z5 h (i:=i) (by omega) _ hm
  unfold runOk at hr
  simp only at hr
  refine⟨⟨s.dc,s.fr⟩,?_⟩
  unfold hasC
  rw[Bool.and_eq_true]
  refine⟨?_,?_⟩
  ·unfold Dt.right;rw[decide_eq_true_eq];simp only;omega
  ·simp only
   rw[←hi]
   unfold hasL
   rw[List.any_eq_true]
   exact⟨_,hm,by unfold inR;simp only[Bool.and_eq_true,decide_eq_true_eq];omega⟩
 ·rintro⟨d,hd⟩
  rcases c with _|⟨s,c⟩
  ·unfold hasC at hd;simp[partL,hasL]at hd
  ·simp
theorem qY7 (dc fr hi x:Int):partL [⟨dc,fr,hi⟩] x=if dc=x then [(fr,hi)] else []:=Y9 [(fr,hi)] dc x
theorem qQ0 {dc fr hi:Int}(h1:Dt.right ⟨dc,fr⟩=true)(h2:Dt.right ⟨dc,hi⟩=true)(h3:fr<=hi):Qm [⟨dc,fr,hi⟩]=true:=by
 unfold Dt.right at h1 h2
 rw[decide_eq_true_eq]at h1 h2
 simp only at h1 h2
 unfold Qm
 rw[Bool.and_eq_true]
 refine⟨?_,?_⟩
 ·simp[dcsOk];omega
 ·rw[List.all_eq_true]
  intro i _
  rw[qY7]
  split
  ·rw[Qo];unfold runOk;simp only;exact⟨by omega,rfl,rfl⟩
  ·rfl
theorem qUg (dc fr hi:Int)(d:Dt):hasC [⟨dc,fr,hi⟩] d=true↔d.right=true/\d.dc=dc/\fr<=d.n/\d.n<=hi:=by
 unfold hasC
 rw[qY7,Bool.and_eq_true]
 refine and_congr Iff.rfl ?_
 split
 ·rename_i e
  simp[hasL,inR,e]
 ·rename_i e
  simp only[hasL,List.any_nil,Bool.false_eq_true,false_iff]
  exact fun h=>e h.1.symm
theorem JD {a b:List Sp}(ha:Qm a=true)(hb:Qm b=true)(d:Dt):hasC (ctxBy a b 1) d=(hasC a d&&hasC b d):=by
 cases hd:d.right
 ·unfold hasC;simp[hd]
 ·rw[qZy ha hb 1 hd];rfl
def someD (c:List Sp)(dc fr:Int)(n:Nat):Bool:=(List.range n).any fun k=>hasC c ⟨dc,fr+(k:Int)⟩
theorem JE {c:List Sp}{dc fr:Int}{n:Nat}:someD c dc fr n=true↔∃ k,k<n/\hasC c ⟨dc,fr+(k:Int)⟩=true:=by
 unfold someD
 rw[List.any_eq_true]
 simp[List.mem_range]
theorem qUh {c:List Sp}(hc:Qm c=true){dc fr:Int}{n:Nat}(h1:Dt.right ⟨dc,fr⟩=true)(h2:Dt.right ⟨dc,fr+(n:Int)-1⟩=true)(hn:1<=n):(0<(ctxBy [⟨dc,fr,fr+(n:Int)-1⟩] c 1).length↔someD c dc fr n=true)/\(0<(ctxBy c [⟨dc,fr,fr+(n:Int)-1⟩] 1).length↔someD c dc fr n=true):=by
 have hr:=qQ0 h1 h2 (by omega)
 have hh:∀ d:Dt,(hasC [⟨dc,fr,fr+(n:Int)-1⟩] d=true/\hasC c d=true)->∃ k,k<n/\hasC c ⟨dc,fr+(k:Int)⟩=true:=fun d h=>by
  obtain⟨_,e,e1,e2⟩:=(qUg _ _ _ _).1 h.1
  refine⟨(d.n-fr).toNat,by omega,?_⟩
  have:(⟨dc,fr+((d.n-fr).toNat:Int)⟩:Dt)=d:=by
   obtain⟨a,b⟩:=d
   simp only at e e1 e2
   rw[←e,Dt.mk.injEq]
   exact⟨rfl,by simp only;omega⟩
  rw[this];exact h.2
 have hg:(∃ k,k<n/\hasC c ⟨dc,fr+(k:Int)⟩=true)->∃ d:Dt,hasC [⟨dc,fr,fr+(n:Int)-1⟩] d=true/\hasC c d=true:=fun ⟨k,hk,h⟩=>
  ⟨_,(qUg _ _ _ _).2 ⟨Y1 h,rfl,by simp only;omega,by simp only;omega⟩,h⟩
 refine⟨?_,?_⟩
 ·rw[qY6 (Y0 hr hc 1),JE]
  constructor
  ·rintro⟨d,h⟩
   rw[JD hr hc,Bool.and_eq_true]at h
   exact hh d h
  ·intro h
   obtain⟨d,h⟩:=hg h
   exact⟨d,by rw[JD hr hc,Bool.and_eq_true];exact h⟩
 ·rw[qY6 (Y0 hc hr 1),JE]
  constructor
  ·rintro⟨d,h⟩
   rw[JD hc hr,Bool.and_eq_true]at h
   exact hh d ⟨h.2,h.1⟩
  ·intro h
   obtain⟨d,h⟩:=hg h
   exact⟨d,by rw[JD hc hr,Bool.and_eq_true];exact⟨h.2,h.1⟩⟩
def cloT (t:Tr)(c:List Sp):Tr:=if caR t c then t else .mk [] []
def cloC (t:Tr)(c:List Sp):List Sp:=if caR t c then c else []
theorem qQ1 (t:Tr)(ve vk:Value)(w:World)(h:t.rd w w.heap.size ve vk)(hr:t.right 5=true)(hN:t.sz<=900000) :
  Calls Tryz.prog 45 #[.agg #[ve,vk]] w (RetTU w t):=by
 have HC:Hid (∀ w',Below w.heap.size w w'->t.rd w' w'.heap.size ve vk):=fun w' hb=>Qi hb hb.size _ _ _ h
 obtain⟨A3,n3,A4,n4,rfl,rfl⟩:=Qj h
 have hb0:Below w.heap.size w ((w.alloc (.cells #[.slice A3 t.es.length n3,.slice A4 t.ks.length n4] 25)).alloc (.cells #[.slice none 0 0,.slice none 0 0] 25)):=((Below.refl _ w).alloc (Nat.le_refl _) _).alloc (by simp) _
 have HB0:=hid hb0
 have HW:Hid (∀ w',Below (w.heap.size+2) ((w.alloc (.cells #[.slice A3 t.es.length n3,.slice A4 t.ks.length n4] 25)).alloc (.cells #[.slice none 0 0,.slice none 0 0] 25)) w'->Below w.heap.size w w'/\w.heap.size+2<=w'.heap.size/\w'.heap[w.heap.size]?=some (.cells #[.slice A3 t.es.length n3,.slice A4 t.ks.length n4] 25 (0,0))/\w'.heap[w.heap.size+1]?=some (.cells #[.slice none 0 0,.slice none 0 0] 25 (0,0))):=fun w' hb=>by
  have hB:Below w.heap.size w w':=HB0.out.trans (hb.mono (by omega))
  exact⟨hB,by have:=hb.size;simpa using this,(hb.block _ (by omega)).trans ((Qg (by simp)).trans (Qd rfl)),(hb.block _ (by omega)).trans (Qd (by simp))⟩
 have HR:=hid hr
 clear h hr hb0
 go_enter Tryz.func45,Tryz.ntmps45
 go_wp2_with fail
 refine (QG t _ _ _ (HC.out _ HB0.out)).mono ?_
 rw[HR.out]
 rintro e w1 ⟨rfl,hb1⟩
 have HX:=hid (hb1.mono (show w.heap.size+2<=_ by simp))
 obtain⟨hB1,hs1,g2,g4⟩:=HW.out _ HX.out
 obtain⟨k0,k1⟩:=bx2 g2
 clear hb1 g2 g4
 go_wp2_with fail
 refine (J8 t w1 _ _ (HC.out _ hB1) hN).mono ?_
 rintro e w2 ⟨ve2,vk2,rfl,hrd,hb2⟩
 obtain⟨Av,nv,Aw,nw,rfl,rfl⟩:=QY hrd
 have hs2:=hb2.size
 obtain⟨hB2,_,_,g4⟩:=HW.out _ (HX.out.trans (hb2.mono hs1))
 have HG4':=hid g4
 have HRU:=hid hrd
 clear hb2 hrd g4 k0 k1
 have k0:w2.cell? ⟨w.heap.size+1,0,none⟩=some (.slice none 0 0):=Qa (i:=0) HG4'.out
 have k1:w2.cell? ⟨w.heap.size+1,1,none⟩=some (.slice none 0 0):=Qa (i:=1) HG4'.out
 have z0:=Qb (i:=0) HG4'.out
 have z1:=Qb (i:=1) HG4'.out
 go_wp2_with fail
 obtain⟨r0,r1,hrW,hsW⟩:=qVj HG4'.out HRU.out (fun b hb=>by have:=hb.1;omega)
 refine bodyPost_ret (v:=.agg #[.slice Av t.es.length nv,.slice Aw t.ks.length nw]) (by simp[results,Tryz.results45,go_sem,r0,r1]) rfl ⟨_,_,rfl,?_,(hB2.setCell (by simp) _).setCell (by simp) _⟩
 exact YH (fun _ _=>rfl) (fun b hb=>⟨by have:=hb.1;omega,by rw[hsW];exact hb.2⟩) _ _ _ hrW
theorem Ky (t:Tr)(c:List Sp)(ve vk vc:Value)(w:World)(h:t.rd w w.heap.size ve vk)(hc:SlP w w.heap.size 3 SpE vc c)(hN:t.sz<=4000)(hN':c.length<=20000) :
  Calls Tryz.prog 15 #[.agg #[ve,vk,vc]] w (RetCU w (cloT t c) (cloC t c)):=by
 have HC:Hid (∀ w',Below w.heap.size w w'->(t.rd w' w'.heap.size ve vk/\SlP w' w'.heap.size 3 SpE vc c)):=fun w' hb=>⟨Qi hb hb.size _ _ _ h,hc.imp hb hb.size fun _ _ _ h=>h⟩
 obtain⟨A3,n3,A4,n4,rfl,rfl⟩:=Qj h
 obtain⟨A5,n5,rfl,_⟩:=hc
 have hb0:Below w.heap.size w ((w.alloc (.cells #[.slice A3 t.es.length n3,.slice A4 t.ks.length n4,.slice A5 c.length n5] 29)).alloc (.cells #[.slice none 0 0,.slice none 0 0,.slice none 0 0] 29)):=((Below.refl _ w).alloc (Nat.le_refl _) _).alloc (by simp) _
 have HB0:=hid hb0
 have HX:Hid (∀ W,Below (w.heap.size+2) ((w.alloc (.cells #[.slice A3 t.es.length n3,.slice A4 t.ks.length n4,.slice A5 c.length n5] 29)).alloc (.cells #[.slice none 0 0,.slice none 0 0,.slice none 0 0] 29)) W->Below w.heap.size w W/\W.heap[w.heap.size+1]?=some (.cells #[.slice none 0 0,.slice none 0 0,.slice none 0 0] 29 (0,0))/\w.heap.size+2<=W.heap.size/\(W.cell? ⟨w.heap.size,0,none⟩=some (.slice A3 t.es.length n3)/\W.cell? ⟨w.heap.size,1,none⟩=some (.slice A4 t.ks.length n4)/\W.cell? ⟨w.heap.size,2,none⟩=some (.slice A5 c.length n5))):=fun W hW=>by
  have g0:W.heap[w.heap.size]?=some (.cells #[.slice A3 t.es.length n3,.slice A4 t.ks.length n4,.slice A5 c.length n5] 29 (0,0)):=(hW.block _ (by omega)).trans ((Qg (by simp)).trans (Qd rfl))
  exact⟨HB0.out.trans (hW.mono (by omega)),(hW.block _ (by omega)).trans (Qd (by simp)),by have:=hW.size;simpa using this,Qa (i:=0) g0,Qa (i:=1) g0,Qa (i:=2) g0⟩
 clear h hb0
 go_enter Tryz.func15,Tryz.ntmps15
 obtain⟨_,_,_,q0,q1,q2⟩:=HX.out _ (Below.refl _ _)
 go_wp2_with fail
 refine (QR t c _ _ _ _ (HC.out _ HB0.out).1 (HC.out _ HB0.out).2 hN hN').mono ?_
 clear q0 q1 q2
 cases hr:caR t c
 ·rintro e w1 ⟨rfl,hb1⟩
  have hX:=hb1.mono (show w.heap.size+2<=_ by simp)
  obtain⟨hB,g,hs,q0,q1,q2⟩:=HX.out _ hX
  have HG:=hid g
  have e1:cloT t c=.mk [] []:=by unfold cloT;rw[hr];rfl
  have e2:cloC t c=[]:=by unfold cloC;rw[hr];rfl
  have HE1:=hid e1
  have HE2:=hid e2
  have k0:w1.cell? ⟨w.heap.size+1,0,none⟩=some (.slice none 0 0):=Qa (i:=0) g
  have k1:w1.cell? ⟨w.heap.size+1,1,none⟩=some (.slice none 0 0):=Qa (i:=1) g
  have k2:w1.cell? ⟨w.heap.size+1,2,none⟩=some (.slice none 0 0):=Qa (i:=2) g
  have z0:=Qb (i:=0) g
  have z1:=Qb (i:=1) g
  have z2:=Qb (i:=2) g
  clear g hr hb1 hX e1 e2
  go_wp2_with fail
  obtain⟨r0,r1,r2,hK,hS⟩:=box3 HG.out (.slice none 0 0) (.slice none 0 0) (.slice none 0 0)
  refine bodyPost_ret (v:=.agg #[.slice none 0 0,.slice none 0 0,.slice none 0 0]) (by simp[results,Tryz.results15,go_sem,r0,r1,r2]) rfl ⟨_,_,_,rfl,by rw[HE1.out];exact zXc _ _,by rw[HE2.out];exact SlU.nil,((hB.setCell (by simp) _).setCell (by simp) _).setCell (by simp) _⟩
 ·rintro e w1 ⟨rfl,hb1⟩
  have hX:=hb1.mono (show w.heap.size+2<=_ by simp)
  have HX1:=hid hX
  obtain⟨hB,_,hs,q0,q1,q2⟩:=HX.out _ hX
  have e1:cloT t c=t:=by unfold cloT;rw[hr];rfl
  have e2:cloC t c=c:=by unfold cloC;rw[hr];rfl
  have HE1:=hid e1
  have HE2:=hid e2
  have HR5:=hid (Kf hr)
  have hcl:c.length<=Few:=by unfold Few;omega
  have hneA:w.heap.size+1≠w.heap.size:=by omega
  clear hb1 hX hr e1 e2
  go_upto_region 3 with (fail)
  go_region_held3 (fun w'=>w'.cell? ⟨w.heap.size,0,none⟩=some (.slice A3 t.es.length n3)/\w'.cell? ⟨w.heap.size,1,none⟩=some (.slice A4 t.ks.length n4)/\w'.cell? ⟨w.heap.size,2,none⟩=some (.slice A5 c.length n5))
   (first|go_keep|exact (HX.out _ hbk3.out).2.2.2|exact (HX.out _ hbk2.out).2.2.2)
   (first
       |(go_at_call 45;go_loud ((refine (qQ1 t _ _ _ (HC.out _ (HX.out _ (HX1.out.trans (by go_grown))).1).1 HR5.out (by omega)).mono ?_);rintro e w2 ⟨ve1,vk1,rfl,hrd1,hb⟩;obtain⟨Av,nv,Aw,nw,rfl,rfl⟩:=QY hrd1;have HR:=hid hrd1;have hbk2:Hid (Below (w.heap.size+2) ((w.alloc (.cells #[.slice A3 t.es.length n3,.slice A4 t.ks.length n4,.slice A5 c.length n5] 29)).alloc (.cells #[.slice none 0 0,.slice none 0 0,.slice none 0 0] 29)) w2):=hid ((HX1.out.trans (Below.trans (by go_grown) (hb.mono (by first|omega|(simp;done)|(simp;omega))))));clear hrd1 hb))
       |(go_at_call 37;go_loud ((refine (YU c _ w2 (HC.out _ (HX.out _ hbk2.out).1).2 hcl).mono ?_);rintro e w3 ⟨v2,rfl,ho2,hb2⟩;obtain⟨A7,c7,hv7⟩:=ho2.shape;subst hv7;have HO2:=hid ho2;have hbk3:=hid (hbk2.out.trans (hb2.mono (HX.out _ hbk2.out).2.2.1));have HG2:=hid (HX.out _ hbk3.out).2.1;have k0:w3.cell? ⟨w.heap.size+1,0,none⟩=some (.slice none 0 0):=Qa (i:=0) HG2.out;have k1:w3.cell? ⟨w.heap.size+1,1,none⟩=some (.slice none 0 0):=Qa (i:=1) HG2.out;have k2:w3.cell? ⟨w.heap.size+1,2,none⟩=some (.slice none 0 0):=Qa (i:=2) HG2.out;have z0:=Qb (i:=0) HG2.out;have z1:=Qb (i:=1) HG2.out;have z2:=Qb (i:=2) HG2.out;have HB2:=hid hb2;clear ho2 hb2)))
  all_goals (
   go_wp2_with fail
   have hs3:w.heap.size+2<=w3.heap.size:=(HX.out _ hbk3.out).2.2.1
   have hs2:w.heap.size+2<=w2.heap.size:=(HX.out _ hbk2.out).2.2.1
   have hs23:=HB2.out.size
   obtain⟨r0,r1,r2,hK,hS⟩:=box3 HG2.out (.slice Av t.es.length nv) (.slice Aw t.ks.length nw) (.slice A7 c.length c7)
   have hBW:Below w.heap.size w (((w3.setCell ⟨w.heap.size+1,0,none⟩ (.slice Av t.es.length nv)).setCell ⟨w.heap.size+1,1,none⟩ (.slice Aw t.ks.length nw)).setCell ⟨w.heap.size+1,2,none⟩ (.slice A7 c.length c7)):=(((HX.out _ hbk3.out).1.setCell (by simp) _).setCell (by simp) _).setCell (by simp) _
   clear k0 k1 k2 z0 z1 z2
   generalize (((w3.setCell ⟨w.heap.size+1,0,none⟩ (.slice Av t.es.length nv)).setCell ⟨w.heap.size+1,1,none⟩ (.slice Aw t.ks.length nw)).setCell ⟨w.heap.size+1,2,none⟩ (.slice A7 c.length c7))=W at *
   refine bodyPost_ret (v:=.agg #[.slice Av t.es.length nv,.slice Aw t.ks.length nw,.slice A7 c.length c7]) (by simp[results,Tryz.results15,go_sem,r0,r1,r2]) rfl ⟨_,_,_,rfl,?_,?_,hBW⟩
   ·rw[HE1.out]
    exact YH (fun b hb=>(hK b (by have:=hb.1;simp only[World.size_drew]at this;omega)).trans (HB2.out.block b hb.2)) (fun b hb=>⟨by have:=hb.1;simp only[World.size_drew]at this;omega,by have:=hb.2;omega⟩) _ _ _ HR.out
   ·rw[HE2.out]
    exact (HO2.out.slu (by unfold Big;omega)).up (fun b hb=>hK b (by have:=hb.1;omega)) (fun b hb=>⟨by have:=hb.1;omega,by have:=hb.2.1;omega⟩) (fun _ _ _ h=>h))
theorem Vg (t:Tr)(c:List Sp)(ve vk vc:Value)(w:World)(h:t.rd w w.heap.size ve vk)(hc:SlP w w.heap.size 3 SpE vc c)(hN:t.sz<=4000)(hN':c.length<=20000) :
  Calls Tryz.prog 15 #[.agg #[ve,vk,vc]] w (RetC w (cloT t c) (cloC t c)):=(Ky t c ve vk vc w h hc hN hN').mono fun _ _ h=>h.dn
theorem qKf (dc fr hi:Int)(w:World)(h1:Dt.right ⟨dc,fr⟩=true)(h2:Dt.right ⟨dc,hi⟩=true)(h3:fr<=hi) :
  Calls Tryz.prog 65 #[.int .i64 dc,.int .i64 fr,.int .i64 hi] w fun e w'=>∃ v,e=.returned (.tuple #[v,.int .i64 0])/\SlA w' (fun b=>w.heap.size<=b/\b<w'.heap.size) 3 SpE v [⟨dc,fr,hi⟩]/\Below w.heap.size w w':=by
 have H1:=hid h1
 have H2:=hid h2
 have hk:Sp.Ok ⟨dc,fr,hi⟩:=by
  unfold Dt.right at h1 h2
  rw[decide_eq_true_eq]at h1 h2
  simp only at h1 h2
  exact⟨by simp only;unfold I64;omega,by simp only;unfold I64;omega,by simp only;unfold I64;omega⟩
 have HK:=hid hk
 clear h1 h2 hk
 go_enter Tryz.func65,Tryz.ntmps65
 go_wp2_with fail
 refine (QB ⟨dc,fr⟩ _).mono ?_
 rw[H1.out]
 rintro e w1 ⟨rfl,hb1⟩
 go_wp2_with fail
 refine (QB ⟨dc,hi⟩ _).mono ?_
 rw[H2.out]
 rintro e w2 ⟨rfl,hb2⟩
 have hB:=hb1.trans (hb2.mono hb1.size)
 have hs:=hB.size
 have hn:¬hi<fr:=by omega
 clear hb1 hb2
 go_wp2_with fail
 refine bodyPost_ret (v:=.tuple #[.slice (some ⟨w2.heap.size,0,none⟩) 1 1,.int .i64 0]) (by simp[results,Tryz.results65,go_sem]) rfl ⟨_,rfl,SlA.one (E:=SpE) (x:=(⟨dc,fr,hi⟩:Sp)) (cs:=[.int .i64 dc,.int .i64 fr,.int .i64 hi]) ⟨rfl,HK.out⟩ rfl (Qd rfl) ⟨hs,by simp⟩,hB.alloc hs _⟩
def ownC:List Sp:=[⟨0,1099511627765,1099511627776⟩]
theorem qUi:Qm ownC=true:=qQ0 (by decide) (by decide) (by decide)
theorem qUj (w:World):Calls Tryz.prog 59 #[] w fun e w'=>∃ v,e=.returned v/\SlA w' (fun b=>w.heap.size<=b/\b<w'.heap.size) 3 SpE v ownC/\Below w.heap.size w w':=by
 go_enter Tryz.func59,Tryz.ntmps59
 go_wp2_with fail
 refine (qKf 0 1099511627765 1099511627776 _ (by decide) (by decide) (by decide)).mono ?_
 rintro e w1 ⟨v,rfl,hs,hb⟩
 go_wp2_with fail
 go_ret
 exact⟨_,rfl,hs,hb⟩
theorem qY8 {c:List Sp}(h:Qm c=true):0<(ctxBy c ownC 1).length↔someD c 0 1099511627765 12=true:=
 (qUh (n:=12) (dc:=0) (fr:=1099511627765) h (by decide) (by decide) (by decide)).2
theorem TxB.start {w5:World}{B:Nat}{a b c a' b' c':Value}{x y:Kn}(h1:x.1.rda w5 (fun k=>B<=k/\k<w5.heap.size) a b)(h2:SlA w5 (fun k=>B<=k/\k<w5.heap.size) 3 SpE c x.2)(h3:y.1.rda w5 (fun k=>B<=k/\k<w5.heap.size) a' b')(h4:SlA w5 (fun k=>B<=k/\k<w5.heap.size) 3 SpE c' y.2) :
  TxB (w5.alloc (.cells #[a,b,c,a',b',c',.slice none 0 0] 100)) w5.heap.size (fun k=>B<=k) (fun i=>if i=0 then (a,b,c) else (a',b',c')) (.slice none 0 0) x y []:=by
 have k1:Keeps (fun k=>B<=k/\k<w5.heap.size) w5 (w5.alloc (.cells #[a,b,c,a',b',c',.slice none 0 0] 100)):=fun k hk=>Qg hk.2
 have k2:∀ k,(B<=k/\k<w5.heap.size)->okGo (w5.alloc (.cells #[a,b,c,a',b',c',.slice none 0 0] 100)) w5.heap.size (.slice none 0 0) (fun k=>B<=k) k:=fun k hk=>⟨hk.1,by omega,by rw[World.size_alloc];omega,by simp[Value.ownBlock]⟩
 exact⟨Qd rfl,Qs k1 k2 _ _ _ h1,h2.up k1 k2 fun _ _ _ h=>h,Qs k1 k2 _ _ _ h3,h4.up k1 k2 fun _ _ _ h=>h,OwnD.nil,fun b hb=>by simp[Value.ownBlock]at hb⟩
def begE (x:Kn):Int:=if caR x.1 x.2 then (if someD x.2 0 1099511627765 12 then 1 else 0) else 1
def BegR (w:World)(x:Kn)(e:Ending)(w':World):Prop:=
 (begE x=1/\e=.returned (.tuple #[.pointer none,.int .i64 1])/\Below w.heap.size w w') ∨
 (begE x=0/\∃ g v,e=.returned (.tuple #[.pointer (some ⟨g,0,none⟩),.int .i64 0])/\w.heap.size<=g/\TxB w' g (fun b=>w.heap.size<=b) v (.slice none 0 0) x x []/\Below w.heap.size w w')
theorem qQ2 (x:Kn)(ve vk vc:Value)(w:World)(h:x.1.rd w w.heap.size ve vk)(hc:SlP w w.heap.size 3 SpE vc x.2)(hN:x.1.sz<=4000)(hN':x.2.length<=20000) :
  Calls Tryz.prog 27 #[.agg #[ve,vk,vc]] w (BegR w x):=by
 obtain⟨t,c⟩:=x
 simp only at h hc hN hN'
 have HC:Hid (∀ w',Below w.heap.size w w'->(t.rd w' w'.heap.size ve vk/\SlP w' w'.heap.size 3 SpE vc c)):=fun w' hb=>⟨Qi hb hb.size _ _ _ h,hc.imp hb hb.size fun _ _ _ h=>h⟩
 obtain⟨A3,n3,A4,n4,rfl,rfl⟩:=Qj h
 obtain⟨A5,n5,rfl,_⟩:=hc
 have hb0:Below w.heap.size w (w.alloc (.cells #[.slice A3 t.es.length n3,.slice A4 t.ks.length n4,.slice A5 c.length n5] 29)):=(Below.refl _ w).alloc (Nat.le_refl _) _
 have HB0:=hid hb0
 have HX:Hid (∀ W,Below (w.heap.size+1) (w.alloc (.cells #[.slice A3 t.es.length n3,.slice A4 t.ks.length n4,.slice A5 c.length n5] 29)) W->Below w.heap.size w W/\w.heap.size+1<=W.heap.size/\(W.cell? ⟨w.heap.size,0,none⟩=some (.slice A3 t.es.length n3)/\W.cell? ⟨w.heap.size,1,none⟩=some (.slice A4 t.ks.length n4)/\W.cell? ⟨w.heap.size,2,none⟩=some (.slice A5 c.length n5))):=fun W hW=>by
  have g0:W.heap[w.heap.size]?=some (.cells #[.slice A3 t.es.length n3,.slice A4 t.ks.length n4,.slice A5 c.length n5] 29 (0,0)):=(hW.block _ (by omega)).trans (Qd rfl)
  exact⟨HB0.out.trans (hW.mono (by omega)),by have:=hW.size;simpa using this,Qa (i:=0) g0,Qa (i:=1) g0,Qa (i:=2) g0⟩
 clear h hb0
 go_enter Tryz.func27,Tryz.ntmps27
 obtain⟨_,hs0,q0,q1,q2⟩:=HX.out _ (Below.refl _ _)
 go_upto_region 1 with (fail)
 cases hr:caR t c
 ·have HE:Hid (begE (t,c)=1):=by unfold Hid begE;simp[hr]
  have HQ:=hid (fun (wf:World) (hbf:Below (w.alloc (.cells #[.slice A3 t.es.length n3,.slice A4 t.ks.length n4,.slice A5 c.length n5] 29)).heap.size (w.alloc (.cells #[.slice A3 t.es.length n3,.slice A4 t.ks.length n4,.slice A5 c.length n5] 29)) wf)=>Calls.boolEq (QR t c _ _ _ wf (HC.out _ (HB0.out.trans (hbf.mono (by simp)))).1 (HC.out _ (HB0.out.trans (hbf.mono (by simp)))).2 hN hN') hr)
  have f0:=Qh (B:=(w.alloc (.cells #[.slice A3 t.es.length n3,.slice A4 t.ks.length n4,.slice A5 c.length n5] 29)).heap.size) q0 (by simp)
  have f1:=Qh (B:=(w.alloc (.cells #[.slice A3 t.es.length n3,.slice A4 t.ks.length n4,.slice A5 c.length n5] 29)).heap.size) q1 (by simp)
  have f2:=Qh (B:=(w.alloc (.cells #[.slice A3 t.es.length n3,.slice A4 t.ks.length n4,.slice A5 c.length n5] 29)).heap.size) q2 (by simp)
  clear hr q0 q1 q2 hs0
  refine Qc (w.alloc (.cells #[.slice A3 t.es.length n3,.slice A4 t.ks.length n4,.slice A5 c.length n5] 29)).heap.size (by kernel_rfl) (by kernel_rfl) ?_
  repeat (go_big_quiet_step (first|(go_at_call 34;with_reducible exact Calls.far_all (Nat.le_refl _) HQ.out)))
  refine wpQuiet_nil ?_
  intro w2 hb
  clear f0 f1 f2
  have hB:=HB0.out.trans (hb.mono (by simp))
  clear hb
  go_wp2_with fail
  exact bodyPost_ret (v:=.tuple #[.pointer none,.int .i64 1]) (by simp[results,Tryz.results27,go_sem]) rfl (.inl ⟨HE.out,rfl,hB⟩)
 ·have HAP:=hid (Kg hr)
  have HR:=hid hr
  have hml:(ctxBy c ownC 1).length<=Big:=by have:=YI c ownC 1;unfold Big ownC at *;simp at *;omega
  have HML:=hid hml
  have e1:cloT t c=t:=by unfold cloT;rw[hr];rfl
  have e2:cloC t c=c:=by unfold cloC;rw[hr];rfl
  have HE1:=hid e1
  have HE2:=hid e2
  clear hr hml e1 e2
  go_region_held3 (fun w'=>w'.cell? ⟨w.heap.size,0,none⟩=some (.slice A3 t.es.length n3)/\w'.cell? ⟨w.heap.size,1,none⟩=some (.slice A4 t.ks.length n4)/\w'.cell? ⟨w.heap.size,2,none⟩=some (.slice A5 c.length n5))
   (first|go_keep|exact (HX.out _ hbk3.out).2.2|exact (HX.out _ hbk2.out).2.2|exact (HX.out _ hbk1.out).2.2)
   (first
    |(go_at_call 34;go_loud ((refine (QR t c _ _ _ _ (HC.out _ (HX.out _ (by go_grown)).1).1 (HC.out _ (HX.out _ (by go_grown)).1).2 hN hN').mono ?_);rw[HR.out];rintro e w1 ⟨rfl,hb⟩;have hbk1:Hid (Below (w.heap.size+1) (w.alloc (.cells #[.slice A3 t.es.length n3,.slice A4 t.ks.length n4,.slice A5 c.length n5] 29)) w1):=hid (Below.trans (by go_grown) (hb.mono (by first|omega|(simp;done)|(simp;omega))));clear hb))
    |(go_at_call 59;go_loud ((refine (qUj _).mono ?_);rintro e w2 ⟨v2,rfl,ho2,hb⟩;obtain⟨A7,c7,hv7⟩:=ho2.shape;subst hv7;have HO2:=hid ho2;have hbk2:Hid (Below (w.heap.size+1) (w.alloc (.cells #[.slice A3 t.es.length n3,.slice A4 t.ks.length n4,.slice A5 c.length n5] 29)) w2):=hid ((hbk1.out.trans (by go_grown)).trans (hb.mono (by first|exact (HX.out _ hbk1.out).2.1|omega|(simp;done)|(simp;omega))));clear ho2 hb))
    |(go_at_call 58;go_loud ((refine (qUf c ownC _ _ _ (HC.out _ (HX.out _ (hbk2.out.trans (by go_grown))).1).2 (HO2.out.slp (fun b hb=>hb.2) (by go_grown)) HAP.out qUi (by omega) (by unfold ownC;simp)).mono ?_);rintro e w3 ⟨v3,rfl,ho3,hb⟩;obtain⟨A8,c8,hv8⟩:=ho3.shape;subst hv8;have hbk3:Hid (Below (w.heap.size+1) (w.alloc (.cells #[.slice A3 t.es.length n3,.slice A4 t.ks.length n4,.slice A5 c.length n5] 29)) w3):=hid ((hbk2.out.trans (by go_grown)).trans (hb.mono (by first|exact (HX.out _ hbk2.out).2.1|omega|(simp;done)|(simp;omega))));clear ho3 hb))
    |fail)
  all_goals
   obtain⟨hB3,hs3,q0,q1,q2⟩:=HX.out _ hbk3.out
   have HB3:=hid hB3
   have HK3:=hid hbk3
   clear hB3
   cases hsd:someD c 0 1099511627765 12
   ·have hnl:¬0<(ctxBy c ownC 1).length:=fun h=>by rw[(qY8 HAP.out).1 h]at hsd;cases hsd
    have hnd:decide (0<(ctxBy c ownC 1).length)=false:=decide_eq_false hnl
    have hz:(ctxBy c ownC 1).length=0:=by omega
    have HE:Hid (begE (t,c)=0):=by unfold Hid begE;simp[HR.out,hsd]
    clear hsd
    go_upto_region 3 with (fail)
    go_region_held3 (fun w'=>w'.cell? ⟨w.heap.size,0,none⟩=some (.slice A3 t.es.length n3)/\w'.cell? ⟨w.heap.size,1,none⟩=some (.slice A4 t.ks.length n4)/\w'.cell? ⟨w.heap.size,2,none⟩=some (.slice A5 c.length n5))
     (first|go_keep|exact (HX.out _ hbk5.out).2.2|exact (HX.out _ hbk4.out).2.2)
     (first
      |(go_at_call 15;((refine (Vg t c _ _ _ _ (HC.out _ (HX.out _ (hbk4.out.trans (by go_grown))).1).1 (HC.out _ (HX.out _ (hbk4.out.trans (by go_grown))).1).2 hN hN').mono ?_);rw[HE1.out,HE2.out];rintro e w5 ⟨v5,u5,x5,rfl,hrd5,hsl5,hb⟩;obtain⟨A51,m51,A52,m52,hv1,hv2⟩:=Ql hrd5;subst hv1;subst hv2;obtain⟨A53,m53,hv3⟩:=hsl5.shape;subst hv3;have HR5:=hid hrd5;have HS5:=hid hsl5;have HB5:Hid (Below w4.heap.size w4 w5):=hid (Below.trans (by go_grown) (hb.mono (by first|omega|(simp;done)|(simp;omega))));have hbk5:Hid (Below (w.heap.size+1) (w.alloc (.cells #[.slice A3 t.es.length n3,.slice A4 t.ks.length n4,.slice A5 c.length n5] 29)) w5):=hid (hbk4.out.trans (HB5.out.mono (HX.out _ hbk4.out).2.1));clear hrd5 hsl5 hb))
      |(go_at_call 15;go_loud ((refine (Vg t c _ _ _ _ (HC.out _ (HX.out _ (HK3.out.trans (by go_grown))).1).1 (HC.out _ (HX.out _ (HK3.out.trans (by go_grown))).1).2 hN hN').mono ?_);rw[HE1.out,HE2.out];rintro e w4 ⟨v4,u4,x4,rfl,hrd4,hsl4,hb⟩;obtain⟨A41,m41,A42,m42,hv1,hv2⟩:=Ql hrd4;subst hv1;subst hv2;obtain⟨A43,m43,hv3⟩:=hsl4.shape;subst hv3;have HR4:=hid hrd4;have HS4:=hid hsl4;have hbk4:Hid (Below (w.heap.size+1) (w.alloc (.cells #[.slice A3 t.es.length n3,.slice A4 t.ks.length n4,.slice A5 c.length n5] 29)) w4):=hid ((HK3.out.trans (by go_grown)).trans (hb.mono (by first|exact (HX.out _ HK3.out).2.1|omega|(simp;done)|(simp;omega))));clear hrd4 hsl4 hb))
      |fail)
    all_goals
     have hs4:w.heap.size+1<=w4.heap.size:=(HX.out _ hbk4.out).2.1
     have hs45:=HB5.out.size
     have hB5:=(HX.out _ hbk5.out).1
     have hst:=TxB.start (w5:=w5) (B:=w.heap.size) (x:=(t,c)) (y:=(t,c)) (Qs (fun b hb=>HB5.out.block b hb.2) (fun b hb=>⟨by have:=hb.1;first|omega|(simp at this;omega),by have:=hb.2;omega⟩) _ _ _ HR4.out) (HS4.out.up (fun b hb=>HB5.out.block b hb.2) (fun b hb=>⟨by have:=hb.1;first|omega|(simp at this;omega),by have:=hb.2;omega⟩) fun _ _ _ h=>h) (Qs (fun _ _=>rfl) (fun b hb=>⟨by have:=hb.1;first|omega|(simp at this;omega),hb.2⟩) _ _ _ HR5.out) (HS5.out.up (fun _ _=>rfl) (fun b hb=>⟨by have:=hb.1;first|omega|(simp at this;omega),hb.2⟩) fun _ _ _ h=>h)
     have HST:=hid hst
     clear hst
     go_wp2_with fail
     exact bodyPost_ret (v:=.tuple #[.pointer (some ⟨w5.heap.size,0,none⟩),.int .i64 0]) (by simp[results,Tryz.results27,go_sem]) rfl (.inr ⟨HE.out,_,_,rfl,by omega,HST.out,hB5.alloc (by omega) _⟩)
   ·have hnl:0<(ctxBy c ownC 1).length:=(qY8 HAP.out).2 hsd
    have hnd:decide (0<(ctxBy c ownC 1).length)=true:=decide_eq_true hnl
    have HE:Hid (begE (t,c)=1):=by unfold Hid begE;simp[HR.out,hsd]
    clear hsd
    go_wp2_with fail
    exact bodyPost_ret (v:=.tuple #[.pointer none,.int .i64 1]) (by simp[results,Tryz.results27,go_sem]) rfl (.inl ⟨HE.out,rfl,HB3.out⟩)
theorem box7 {w:World}{g:Nat}{x0 x1 x2 x3 x4 x5 x6:Value}{ty:TypeId}(hbx:w.heap[g]?=some (.cells #[x0,x1,x2,x3,x4,x5,x6] ty (0,0)))(a b c d e f h:Value) :
  (((((((((w.setCell ⟨g,0,none⟩ a).setCell ⟨g,1,none⟩ b).setCell ⟨g,2,none⟩ c).setCell ⟨g,3,none⟩ d).setCell ⟨g,4,none⟩ e).setCell ⟨g,5,none⟩ f).setCell ⟨g,6,none⟩ h))).heap[g]?=some (.cells #[a,b,c,d,e,f,h] ty (0,0))/\(∀ k,k≠g->(((((((((w.setCell ⟨g,0,none⟩ a).setCell ⟨g,1,none⟩ b).setCell ⟨g,2,none⟩ c).setCell ⟨g,3,none⟩ d).setCell ⟨g,4,none⟩ e).setCell ⟨g,5,none⟩ f).setCell ⟨g,6,none⟩ h))).heap[k]?=w.heap[k]?)/\(((((((((w.setCell ⟨g,0,none⟩ a).setCell ⟨g,1,none⟩ b).setCell ⟨g,2,none⟩ c).setCell ⟨g,3,none⟩ d).setCell ⟨g,4,none⟩ e).setCell ⟨g,5,none⟩ f).setCell ⟨g,6,none⟩ h))).heap.size=w.heap.size/\(∀ B w0,B<=g->Below B w0 w->Below B w0 (((((((((w.setCell ⟨g,0,none⟩ a).setCell ⟨g,1,none⟩ b).setCell ⟨g,2,none⟩ c).setCell ⟨g,3,none⟩ d).setCell ⟨g,4,none⟩ e).setCell ⟨g,5,none⟩ f).setCell ⟨g,6,none⟩ h)))):=by
 have hW:=Qe (i:=6) (Qe (i:=5) (Qe (i:=4) (Qe (i:=3) (Qe (i:=2) (Qe (i:=1) (Qe (i:=0) hbx a) b) c) d) e) f) h
 refine⟨by rw[hW];simp,fun k hk=>?_,by simp[World.setCell],fun B w0 hB hb=>((((((hb.setCell hB _).setCell hB _).setCell hB _).setCell hB _).setCell hB _).setCell hB _).setCell hB _⟩
 exact (Below.heap_setCell _ _ _ _ hk).trans ((Below.heap_setCell _ _ _ _ hk).trans ((Below.heap_setCell _ _ _ _ hk).trans ((Below.heap_setCell _ _ _ _ hk).trans ((Below.heap_setCell _ _ _ _ hk).trans ((Below.heap_setCell _ _ _ _ hk).trans (Below.heap_setCell _ _ _ _ hk))))))
def RBegR (w:World)(x:Kn)(ve vk vc:Value)(e:Ending)(w':World):Prop:=
 ((begE x=1/\e=.returned (.tuple #[.agg #[.slice none 0 0,.slice none 0 0,.slice none 0 0,.slice none 0 0,.slice none 0 0,.slice none 0 0,.slice none 0 0],.int .i64 1]))∨(begE x=0/\e=.returned (.tuple #[.agg #[ve,vk,vc,.slice none 0 0,ve,vk,vc],.int .i64 0])))/\Below w.heap.size w w'
theorem qQ3 (x:Kn)(ve vk vc:Value)(w:World)(h:x.1.rd w w.heap.size ve vk)(hc:SlP w w.heap.size 3 SpE vc x.2)(hN:x.1.sz<=4000)(hN':x.2.length<=20000) :
  Calls Tryz.prog 28 #[.agg #[ve,vk,vc]] w (RBegR w x ve vk vc):=by
 obtain⟨t,c⟩:=x
 simp only at h hc hN hN'
 have HC:Hid (∀ w',Below w.heap.size w w'->(t.rd w' w'.heap.size ve vk/\SlP w' w'.heap.size 3 SpE vc c)):=fun w' hb=>⟨Qi hb hb.size _ _ _ h,hc.imp hb hb.size fun _ _ _ h=>h⟩
 obtain⟨A3,n3,A4,n4,rfl,rfl⟩:=Qj h
 obtain⟨A5,n5,rfl,_⟩:=hc
 have hb0:Below w.heap.size w ((w.alloc (.cells #[.slice A3 t.es.length n3,.slice A4 t.ks.length n4,.slice A5 c.length n5] 29)).alloc (.cells #[.slice none 0 0,.slice none 0 0,.slice none 0 0,.slice none 0 0,.slice none 0 0,.slice none 0 0,.slice none 0 0] 51)):=((Below.refl _ w).alloc (Nat.le_refl _) _).alloc (by simp) _
 have HB0:=hid hb0
 have HX:Hid (∀ W,Below (w.heap.size+2) ((w.alloc (.cells #[.slice A3 t.es.length n3,.slice A4 t.ks.length n4,.slice A5 c.length n5] 29)).alloc (.cells #[.slice none 0 0,.slice none 0 0,.slice none 0 0,.slice none 0 0,.slice none 0 0,.slice none 0 0,.slice none 0 0] 51)) W->Below w.heap.size w W/\w.heap.size+2<=W.heap.size/\W.heap[w.heap.size+1]?=some (.cells #[.slice none 0 0,.slice none 0 0,.slice none 0 0,.slice none 0 0,.slice none 0 0,.slice none 0 0,.slice none 0 0] 51 (0,0))/\W.cell? ⟨w.heap.size,0,none⟩=some (.slice A3 t.es.length n3)/\W.cell? ⟨w.heap.size,1,none⟩=some (.slice A4 t.ks.length n4)/\W.cell? ⟨w.heap.size,2,none⟩=some (.slice A5 c.length n5)):=fun W hW=>by
  have g0:W.heap[w.heap.size]?=some (.cells #[.slice A3 t.es.length n3,.slice A4 t.ks.length n4,.slice A5 c.length n5] 29 (0,0)):=(hW.block _ (by omega)).trans ((Qg (by simp)).trans (Qd rfl))
  exact⟨HB0.out.trans (hW.mono (by omega)),by have:=hW.size;simpa using this,(hW.block _ (by omega)).trans (Qd (by simp)),Qa (i:=0) g0,Qa (i:=1) g0,Qa (i:=2) g0⟩
 have hneA:w.heap.size+1≠w.heap.size:=by omega
 clear h hb0
 go_enter Tryz.func28,Tryz.ntmps28
 obtain⟨_,hs0,_,q0,q1,q2⟩:=HX.out _ (Below.refl _ _)
 go_wp2_with fail
 refine (qQn t c _ _ _ _ (HC.out _ HB0.out).1 (HC.out _ HB0.out).2 hN hN').mono ?_
 rw[←zZw]
 clear q0 q1 q2 hs0
 cases hr:caR t c
 ·rintro e w1 ⟨rfl,hb1⟩
  obtain⟨hB1,hs1,hG,q0,q1,q2⟩:=HX.out _ (hb1.mono (show w.heap.size+2<=_ by simp))
  have HE:Hid (begE (t,c)=1):=by unfold Hid begE;simp[hr]
  have HG:=hid hG
  have HB1:=hid hB1
  obtain⟨k0,k1,k2,k3,k4,k5,k6,z0,z1,z2,z3,z4,z5,z6⟩:=bz7 hG
  clear hr hG hB1 hb1
  go_wp2_with fail
  obtain⟨hW7,hK7,hS7,hB7⟩:=box7 HG.out (.slice none 0 0) (.slice none 0 0) (.slice none 0 0) (.slice none 0 0) (.slice none 0 0) (.slice none 0 0) (.slice none 0 0)
  obtain⟨r0,r1,r2,r3,r4,r5,r6⟩:=bx7 hW7
  exact bodyPost_ret (v:=.tuple #[.agg #[(.slice none 0 0),(.slice none 0 0),(.slice none 0 0),(.slice none 0 0),(.slice none 0 0),(.slice none 0 0),(.slice none 0 0)],.int .i64 1]) (by simp[results,Tryz.results28,go_sem,r0,r1,r2,r3,r4,r5,r6]<;>rfl) rfl ⟨.inl ⟨HE.out,rfl⟩,hB7 _ _ (by omega) HB1.out⟩
 ·rintro e w1 ⟨rfl,hb1⟩
  have hX1:=hb1.mono (show w.heap.size+2<=_ by simp)
  have HX1:=hid hX1
  have HR:=hid hr
  clear hb1 hX1 hr
  go_wp2_with fail
  go_loopw [9] (fun i wr=>∃ k:Nat,k<=12/\i=.int .i64 k/\Hid (∀ j,j<k->hasC c (txD j)=false)/\Below (w.heap.size+2) ((w.alloc (.cells #[.slice A3 t.es.length n3,.slice A4 t.ks.length n4,.slice A5 c.length n5] 29)).alloc (.cells #[.slice none 0 0,.slice none 0 0,.slice none 0 0,.slice none 0 0,.slice none 0 0,.slice none 0 0,.slice none 0 0] 51)) wr) (fun i _=>12-(intOf i).toNat)
  case atStart=>exact⟨0,by omega,rfl,fun j hj=>absurd hj (Nat.not_lt_zero _),HX1.out⟩
  case round=>
   obtain⟨k,hk,rfl,hno,hb⟩:=hrel
   have HB:=hid hb
   obtain⟨hB1,hs1,hG,q0,q1,q2⟩:=HX.out _ hb
   clear hb
   by_cases hlt:k<12
   ·have hkk:(k:Int)<12:=by omega
    have hwr:IntKind.i64.wrap (1099511627765+(k:Int))=1099511627765+(k:Int):=IntWalk.i64_in _ (by omega)
    clear hG
    go_wp2_with fail
    refine (ZG c ⟨0,1099511627765+(k:Int)⟩ _ _ (HC.out _ hB1).2 (by omega)).mono ?_
    cases hh:hasC c ⟨0,1099511627765+(k:Int)⟩
    ·rintro e w2 ⟨rfl,hb2⟩
     have HN2:Hid (∀ j,j<k+1->hasC c (txD j)=false):=fun j hj=>by
      rcases (show j<k∨j=k by omega) with h|rfl
      ·exact hno.out j h
      ·exact hh
     have HB2:=hid (HB.out.trans (hb2.mono hs1))
     clear hh hb2 hB1
     go_wp2_with fail
     go_roundw
     case rel=>exact⟨k+1,by omega,by go_num,HN2,HB2.out⟩
     case measure=>simp[intOf];omega
    ·rintro e w2 ⟨rfl,hb2⟩
     have HE:Hid (begE (t,c)=1):=by
      unfold Hid begE
      have:someD c 0 1099511627765 12=true:=JE.2 ⟨k,hlt,hh⟩
      simp[HR.out,this]
     clear q0 q1 q2
     obtain⟨hB2,hs2,hG,q0,q1,q2⟩:=HX.out _ (HB.out.trans (hb2.mono hs1))
     have HG:=hid hG
     have HB2:=hid hB2
     obtain⟨k0,k1,k2,k3,k4,k5,k6,z0,z1,z2,z3,z4,z5,z6⟩:=bz7 hG
     clear hG hB2 hb2 hh hB1
     go_wp2_with fail
     obtain⟨hW7,hK7,hS7,hB7⟩:=box7 HG.out (.slice none 0 0) (.slice none 0 0) (.slice none 0 0) (.slice none 0 0) (.slice none 0 0) (.slice none 0 0) (.slice none 0 0)
     obtain⟨r0,r1,r2,r3,r4,r5,r6⟩:=bx7 hW7
     exact bodyPost_ret (v:=.tuple #[.agg #[(.slice none 0 0),(.slice none 0 0),(.slice none 0 0),(.slice none 0 0),(.slice none 0 0),(.slice none 0 0),(.slice none 0 0)],.int .i64 1]) (by simp[results,Tryz.results28,go_sem,r0,r1,r2,r3,r4,r5,r6]<;>rfl) rfl ⟨.inl ⟨HE.out,rfl⟩,hB7 _ _ (by omega) HB2.out⟩
   ·have hke:k=12:=by omega
    subst hke
    have HE:Hid (begE (t,c)=0):=by
     unfold Hid begE
     have:someD c 0 1099511627765 12=false:=by
      rw[Bool.eq_false_iff]
      intro h
      obtain⟨j,hj,hh⟩:=JE.1 h
      have:=hno.out j hj
      unfold txD at this
      rw[this]at hh;cases hh
     simp[HR.out,this]
    have HG:=hid hG
    have HB1:=hid hB1
    obtain⟨k0,k1,k2,k3,k4,k5,k6,z0,z1,z2,z3,z4,z5,z6⟩:=bz7 hG
    clear hG hB1
    go_wp2_with fail
    obtain⟨hW7,hK7,hS7,hB7⟩:=box7 HG.out (.slice A3 t.es.length n3) (.slice A4 t.ks.length n4) (.slice A5 c.length n5) (.slice none 0 0) (.slice A3 t.es.length n3) (.slice A4 t.ks.length n4) (.slice A5 c.length n5)
    obtain⟨r0,r1,r2,r3,r4,r5,r6⟩:=bx7 hW7
    exact bodyPost_ret (v:=.tuple #[.agg #[(.slice A3 t.es.length n3),(.slice A4 t.ks.length n4),(.slice A5 c.length n5),(.slice none 0 0),(.slice A3 t.es.length n3),(.slice A4 t.ks.length n4),(.slice A5 c.length n5)],.int .i64 0]) (by simp[results,Tryz.results28,go_sem,r0,r1,r2,r3,r4,r5,r6]<;>rfl) rfl ⟨.inr ⟨HE.out,rfl⟩,hB7 _ _ (by omega) HB1.out⟩
def RetVE (w:World)(v:Vw)(k:Int)(e:Ending)(w':World):Prop:=
 ∃ vl,e=.returned (.tuple #[.agg #[.int .i64 v.kind,.bool v.on,.int .i64 v.n,vl],.int .i64 k])/\SlA w' (fun b=>w.heap.size<=b/\b<w'.heap.size) 1 StE vl v.l/\Below w.heap.size w w'
theorem box4 {w:World}{g:Nat}{x y z u:Value}{e:TypeId}(hbx:w.heap[g]?=some (.cells #[x,y,z,u] e (0,0)))(a b c d:Value) :
  ((((w.setCell ⟨g,0,none⟩ a).setCell ⟨g,1,none⟩ b).setCell ⟨g,2,none⟩ c).setCell ⟨g,3,none⟩ d).cell? ⟨g,0,none⟩=some a/\((((w.setCell ⟨g,0,none⟩ a).setCell ⟨g,1,none⟩ b).setCell ⟨g,2,none⟩ c).setCell ⟨g,3,none⟩ d).cell? ⟨g,1,none⟩=some b/\((((w.setCell ⟨g,0,none⟩ a).setCell ⟨g,1,none⟩ b).setCell ⟨g,2,none⟩ c).setCell ⟨g,3,none⟩ d).cell? ⟨g,2,none⟩=some c/\((((w.setCell ⟨g,0,none⟩ a).setCell ⟨g,1,none⟩ b).setCell ⟨g,2,none⟩ c).setCell ⟨g,3,none⟩ d).cell? ⟨g,3,none⟩=some d /\
   (∀ k,k≠g->((((w.setCell ⟨g,0,none⟩ a).setCell ⟨g,1,none⟩ b).setCell ⟨g,2,none⟩ c).setCell ⟨g,3,none⟩ d).heap[k]?=w.heap[k]?)/\((((w.setCell ⟨g,0,none⟩ a).setCell ⟨g,1,none⟩ b).setCell ⟨g,2,none⟩ c).setCell ⟨g,3,none⟩ d).heap.size=w.heap.size:=by
 have hW:=Qe (i:=3) (Qe (i:=2) (Qe (i:=1) (Qe (i:=0) hbx a) b) c) d
 exact⟨(Qa (i:=0) hW).trans (by simp),(Qa (i:=1) hW).trans (by simp),(Qa (i:=2) hW).trans (by simp),(Qa (i:=3) hW).trans (by simp),
  fun k hk=>(Below.heap_setCell _ _ _ _ hk).trans ((Below.heap_setCell _ _ _ _ hk).trans ((Below.heap_setCell _ _ _ _ hk).trans (Below.heap_setCell _ _ _ _ hk))),by simp[World.setCell]⟩
theorem Q8 {B:Nat}{w0 w:World}{g:Nat}(h:Below B w0 w)(hg:B<=g)(a b c d:Value):Below B w0 ((((w.setCell ⟨g,0,none⟩ a).setCell ⟨g,1,none⟩ b).setCell ⟨g,2,none⟩ c).setCell ⟨g,3,none⟩ d):=
 (((h.setCell (p:=⟨g,0,none⟩) hg a).setCell (p:=⟨g,1,none⟩) hg b).setCell (p:=⟨g,2,none⟩) hg c).setCell (p:=⟨g,3,none⟩) hg d
theorem zQ7 (u:Tr):(Z2 u).length<=u.es.length:=by
 unfold Z2
 have h1:∀ l:List ByteArray,(cmpL (srtL l)).length<=l.length:=fun l=>by
  rw[sd_eq]
  obtain⟨h1,h2⟩:=VA l
  exact List.Nodup.length_le_of_subset (qYp h1) fun x hx=>(h2 x).1 hx
 refine Nat.le_trans (h1 _) ?_
 split
 ·unfold txtL;simp
 ·simp
theorem zQ8 (u:Tr):(Yl u).length<=u.ks.length:=by unfold Yl;split<;>simp
theorem qY9 {t:Tr}{p:List ByteArray}(h:readI t p≠0):readV t p=vw0:=by unfold readV;rw[if_neg h]
theorem qKg (t:Tr)(path:List ByteArray)(ve vk vp:Value)(w:World)(h:t.rd w w.heap.size ve vk)(hp:SlP w w.heap.size 1 StE vp path)(hN:t.sz<=4000) :
  Calls Tryz.prog 47 #[.agg #[ve,vk],vp] w (RetVE w (readV t path) (readI t path)):=by
 have HC:Hid (∀ w',Below w.heap.size w w'->t.rd w' w'.heap.size ve vk):=fun w' hb=>Qi hb hb.size _ _ _ h
 have HD:Hid (∀ w',Below w.heap.size w w'->SlP w' w'.heap.size 1 StE vp path):=fun w' hb=>hp.imp hb hb.size fun _ _ _ h=>h
 obtain⟨A3,n3,A4,n4,rfl,rfl⟩:=Qj h
 obtain⟨A5,n5,rfl,p1,p2,p3⟩:=hp
 unfold Big at p2
 have hb0:=((Below.refl w.heap.size w).alloc (Nat.le_refl _) (.cells #[.slice A3 t.es.length n3,.slice A4 t.ks.length n4] 25)).alloc (by simp) (.cells #[.int .i64 0,.bool false,.int .i64 0,.slice none 0 0] 55)
 have HX:Hid (∀ W,Below (w.heap.size+2) ((w.alloc (.cells #[.slice A3 t.es.length n3,.slice A4 t.ks.length n4] 25)).alloc (.cells #[.int .i64 0,.bool false,.int .i64 0,.slice none 0 0] 55)) W ->
   (Below w.heap.size w W/\t.rd W W.heap.size (.slice A3 t.es.length n3) (.slice A4 t.ks.length n4)/\SlP W W.heap.size 1 StE (.slice A5 path.length n5) path/\W.cell? ⟨w.heap.size,0,none⟩=some (.slice A3 t.es.length n3)/\W.cell? ⟨w.heap.size,1,none⟩=some (.slice A4 t.ks.length n4)/\W.heap[w.heap.size+1]?=some (.cells #[.int .i64 0,.bool false,.int .i64 0,.slice none 0 0] 55 (0,0)))):=fun W hW=>by
  have g0:W.heap[w.heap.size]?=some (.cells #[.slice A3 t.es.length n3,.slice A4 t.ks.length n4] 25 (0,0)):=(hW.block _ (by omega)).trans ((Qg (by simp)).trans (Qd rfl))
  have g1:W.heap[w.heap.size+1]?=some (.cells #[.int .i64 0,.bool false,.int .i64 0,.slice none 0 0] 55 (0,0)):=(hW.block _ (by omega)).trans (Qd (by simp))
  have hB:=hb0.trans (hW.mono (by omega))
  exact⟨hB,HC.out _ hB,HD.out _ hB,Qa (i:=0) g0,Qa (i:=1) g0,g1⟩
 clear h
 go_enter Tryz.func47,Tryz.ntmps47
 go_wp2_with fail
 obtain⟨hB,rt,rp,c0,c1,g1⟩:=HX.out _ (Below.refl _ _)
 refine (QG t _ _ _ rt).mono ?_
 cases ht:t.right 5
 ·rintro e w1 ⟨rfl,hb1⟩
  have HBN:=hid (hb1.mono (show w.heap.size+2<=_ by simp))
  have hRI:readI t path=1:=by unfold readI;rw[ht];rfl
  have HRI:=hid hRI
  have HRV:=hid (qY9 (t:=t) (p:=path) (by rw[hRI];decide))
  clear hB rt rp c0 c1 g1 ht hb1 hRI
  have hGZ:=(HX.out _ HBN.out).2.2.2.2.2
  have hBz:=(HX.out _ HBN.out).1
  have HG:=hid hGZ
  have HBZ:=hid hBz
  obtain⟨k0,k1,k2,k3,z0,z1,z2,z3⟩:=bz4 hGZ
  clear hGZ hBz
  go_wp2_with fail
  obtain⟨r0,r1,r2,r3,hK,hS⟩:=box4 HG.out (.int .i64 0) (.bool false) (.int .i64 0) (.slice none 0 0)
  have hBW:=Q8 HBZ.out (show w.heap.size<=w.heap.size+1 by omega) (.int .i64 0) (.bool false) (.int .i64 0) (.slice none 0 0)
  exact bodyPost_ret (v:=.tuple #[.agg #[.int .i64 0,.bool false,.int .i64 0,.slice none 0 0],.int .i64 1]) (by simp[results,Tryz.results47,go_sem,r0,r1,r2,r3]<;>rfl) rfl ⟨_,by rw[HRI.out,HRV.out];rfl,by rw[HRV.out];exact SlA.nil,hBW⟩
 rintro e w1 ⟨rfl,hb1⟩
 have HBN:=hid (hb1.mono (show w.heap.size+2<=_ by simp))
 clear hB rt rp c0 c1 g1 hb1
 obtain⟨hB,rt,rp,c0,c1,g1⟩:=HX.out _ HBN.out
 have HT:=hid ht
 clear ht
 go_wp2_with fail
 refine (XQ path _ _ rp).mono ?_
 by_cases hi:pathI path=0
 case neg=>
  rintro e w2 ⟨rfl,hb2⟩
  have HBN2:=hid (HBN.out.trans (hb2.mono (by have:=HBN.out.size;simpa using this)))
  have hne:(pathI path==0)=false:=by simpa using hi
  have hRI:readI t path=pathI path:=by unfold readI;rw[HT.out];rfl
  have HRI:=hid hRI
  have HRV:=hid (qY9 (t:=t) (p:=path) (by rw[hRI];exact hi))
  clear hB rt rp c0 c1 g1 hb2 hi HBN hRI
  have HBN:=HBN2
  have hGZ:=(HX.out _ HBN.out).2.2.2.2.2
  have hBz:=(HX.out _ HBN.out).1
  have HG:=hid hGZ
  have HBZ:=hid hBz
  obtain⟨k0,k1,k2,k3,z0,z1,z2,z3⟩:=bz4 hGZ
  clear hGZ hBz
  go_wp2_with fail
  obtain⟨r0,r1,r2,r3,hK,hS⟩:=box4 HG.out (.int .i64 0) (.bool false) (.int .i64 0) (.slice none 0 0)
  have hBW:=Q8 HBZ.out (show w.heap.size<=w.heap.size+1 by omega) (.int .i64 0) (.bool false) (.int .i64 0) (.slice none 0 0)
  exact bodyPost_ret (v:=.tuple #[.agg #[.int .i64 0,.bool false,.int .i64 0,.slice none 0 0],.int .i64 (pathI path)]) (by simp[results,Tryz.results47,go_sem,r0,r1,r2,r3]<;>rfl) rfl ⟨_,by rw[HRI.out,HRV.out];rfl,by rw[HRV.out];exact SlA.nil,hBW⟩
 rw[hi]
 rintro e w2 ⟨rfl,hb2⟩
 have HBN2:=hid (HBN.out.trans (hb2.mono (by have:=HBN.out.size;simpa using this)))
 have HI:=hid hi
 obtain⟨hk1,hk2⟩:=qWv hi
 have hpl:=(QZ hi).1
 clear hB rt rp c0 c1 g1 hb2 hi HBN
 have HBN:=HBN2
 clear HBN2
 obtain⟨hB,rt,rp,c0,c1,g1⟩:=HX.out _ HBN.out
 obtain⟨u,HU⟩:∃ u,Hid (tgetT t path=u):=⟨_,rfl⟩
 have HUK:Hid (getK t path=u):=(XL HT.out path).symm.trans HU.out
 have hus:u.sz<=4000:=by rw[←HUK.out];exact Nat.le_trans (Q4 t path) hN
 have hue:=es_sz u
 go_wp2_with fail
 refine (Xz t path _ _ _ _ rt rp (by omega)).mono ?_
 rw[HU.out]
 rintro e w3 ⟨ve3,vk3,rfl,hrd3,hb3⟩
 obtain⟨Ar,nr,Br,mr,rfl,rfl⟩:=Ql hrd3
 have HBN2:=hid (HBN.out.trans (hb3.mono (by have:=HBN.out.size;simpa using this)))
 have hs3:=HBN2.out.size
 simp only[World.size_alloc]at hs3
 have HR3:=hid hrd3
 obtain⟨bq,offq,hA5,hbq,hcq⟩:=p3 (by rintro rfl;simp at hpl)
 subst hA5
 obtain⟨cs,⟨rfl,hkok⟩,_,hku⟩:=hcq (path.length-1) _ (ZT hpl)
 have HY:Hid (∀ W,Below (w3.heap.size+1) (w3.alloc (.cells #[.slice Ar u.es.length nr,.slice Br u.ks.length mr] 25)) W->(Below (w.heap.size+2) ((w.alloc (.cells #[.slice A3 t.es.length n3,.slice A4 t.ks.length n4] 25)).alloc (.cells #[.int .i64 0,.bool false,.int .i64 0,.slice none 0 0] 55)) W/\u.rd W W.heap.size (.slice Ar u.es.length nr) (.slice Br u.ks.length mr)/\W.cell? ⟨w3.heap.size,0,none⟩=some (.slice Ar u.es.length nr)/\W.cell? ⟨w3.heap.size,1,none⟩=some (.slice Br u.ks.length mr)/\W.cell? ⟨bq,offq+(path.length-1),none⟩=some (.string (lastK path)))):=fun W hW=>by
  have g:=(hW.block w3.heap.size (by omega)).trans (Qd rfl)
  have hB3:=((Below.refl _ w3).alloc (Nat.le_refl _) _).trans (hW.mono (by omega))
  have hBX:=HBN2.out.trans (hB3.mono (by omega))
  have hBW:=(HX.out W hBX).1
  exact⟨hBX,Zx HR3.out (fun b hb=>hb.2) hB3,Qa (i:=0) g,Qa (i:=1) g,(hBW.cell (p:=⟨bq,offq+(path.length-1),none⟩) hbq).trans (by simpa using hku 0 _ rfl)⟩
 clear hB rt rp c0 c1 g1 hb3 hrd3 HBN hku hcq p3
 obtain⟨hBy,ru,y0,y1,y2⟩:=HY.out _ (Below.refl _ _)
 go_wp2_with fail
 refine (Q2 (lastK path) _).mono ?_
 rcases (show kindB (lastK path)=1∨kindB (lastK path)=2∨kindB (lastK path)=3∨kindB (lastK path)=4∨kindB (lastK path)=5 by omega) with hk|hk|hk|hk|hk
 ·rw[hk]
  rintro e w4 ⟨rfl,hb4⟩
  have HBY:=hid (hb4.mono (show w3.heap.size+1<=_ by simp))
  have hs4:=HBY.out.size
  simp only[World.size_alloc]at hs4
  have HV:Hid (∀ W,Below (w4.heap.size+1) (w4.alloc (.cells #[.int .i64 1,.bool false,.int .i64 0,.slice none 0 0] 55)) W->(Below (w3.heap.size+1) (w3.alloc (.cells #[.slice Ar u.es.length nr,.slice Br u.ks.length mr] 25)) W/\W.heap[w4.heap.size]?=some (.cells #[.int .i64 1,.bool false,.int .i64 0,.slice none 0 0] 55 (0,0)))):=fun W hW=>
   ⟨HBY.out.trans ((((Below.refl _ w4).alloc (Nat.le_refl _) _).trans (hW.mono (by omega))).mono (by omega)),(hW.block w4.heap.size (by omega)).trans (Qd rfl)⟩
  have HVW:Hid (readV t path=viewK 1 u/\readI t path=0):=by
   have h0:readI t path=0:=by unfold readI;rw[HT.out,HI.out];rfl
   exact⟨by unfold readV;rw[if_pos h0,hk,HUK.out],h0⟩
  clear hBy ru y0 y1 y2 hb4 hk
  obtain⟨hBv,gv⟩:=HV.out _ (Below.refl _ _)
  obtain⟨hBy,ru,y0,y1,y2⟩:=HY.out _ hBv
  have v0:=Qa (i:=0) gv
  simp only[List.getElem?_toArray,List.getElem?_cons_zero]at v0
  go_wp2_with fail
  refine (zXh u _ _ _ ru).mono ?_
  rintro e w5 ⟨rfl,hb5⟩
  have HBV:=hid (hb5.mono (show w4.heap.size+1<=_ by simp))
  have hs5:=HBV.out.size
  simp only[World.size_alloc]at hs5
  clear hBv gv hBy ru y0 y1 y2 v0 hb5
  obtain⟨hBv,gv⟩:=HV.out _ HBV.out
  obtain⟨hBx,_,_,_,_⟩:=HY.out _ hBv
  obtain⟨hBW,_,_,_,_,gz⟩:=HX.out _ hBx
  have HGV:=hid gv
  have HGZ:=hid gz
  have HBW:=hid hBW
  obtain⟨v0,v1,v2,v3,u0,u1,u2,u3⟩:=bz4 gv
  obtain⟨k0,k1,k2,k3,z0,z1,z2,z3⟩:=bz4 gz
  have hne1:w4.heap.size≠w.heap.size+1:=by omega
  have hne2:w.heap.size+1≠w4.heap.size:=by omega
  clear hBv gv hBx hBW gz
  go_wp2_with fail
  have HG5:(w5.setCell ⟨w4.heap.size,1,none⟩ (.bool (onB u))).heap[w.heap.size+1]?=some (.cells #[.int .i64 0,.bool false,.int .i64 0,.slice none 0 0] 55 (0,0)):=(Below.heap_setCell _ _ _ _ (by simp;omega)).trans HGZ.out
  have hS5:(w5.setCell ⟨w4.heap.size,1,none⟩ (.bool (onB u))).heap.size=w5.heap.size:=by simp[World.setCell]
  obtain⟨r0,r1,r2,r3,hK,hS⟩:=box4 HG5 (.int .i64 1) (.bool (onB u)) (.int .i64 0) (.slice none 0 0)
  have hBB:=Q8 (HBW.out.setCell (p:=⟨w4.heap.size,1,none⟩) (by simp;omega) (.bool (onB u))) (show w.heap.size<=w.heap.size+1 by omega) (.int .i64 1) (.bool (onB u)) (.int .i64 0) (.slice none 0 0)
  exact bodyPost_ret (v:=.tuple #[.agg #[.int .i64 1,.bool (onB u),.int .i64 0,.slice none 0 0],.int .i64 0]) (by simp[results,Tryz.results47,go_sem,r0,r1,r2,r3]<;>rfl) rfl ⟨_,by rw[HVW.out.1,HVW.out.2];rfl,by rw[HVW.out.1];exact SlA.nil,hBB⟩
 ·rw[hk]
  rintro e w4 ⟨rfl,hb4⟩
  have HBY:=hid (hb4.mono (show w3.heap.size+1<=_ by simp))
  have hs4:=HBY.out.size
  simp only[World.size_alloc]at hs4
  have HV:Hid (∀ W,Below (w4.heap.size+1) (w4.alloc (.cells #[.int .i64 2,.bool false,.int .i64 0,.slice none 0 0] 55)) W->(Below (w3.heap.size+1) (w3.alloc (.cells #[.slice Ar u.es.length nr,.slice Br u.ks.length mr] 25)) W/\W.heap[w4.heap.size]?=some (.cells #[.int .i64 2,.bool false,.int .i64 0,.slice none 0 0] 55 (0,0)))):=fun W hW=>
   ⟨HBY.out.trans ((((Below.refl _ w4).alloc (Nat.le_refl _) _).trans (hW.mono (by omega))).mono (by omega)),(hW.block w4.heap.size (by omega)).trans (Qd rfl)⟩
  have HVW:Hid (readV t path=viewK 2 u/\readI t path=0):=by
   have h0:readI t path=0:=by unfold readI;rw[HT.out,HI.out];rfl
   exact⟨by unfold readV;rw[if_pos h0,hk,HUK.out],h0⟩
  clear hBy ru y0 y1 y2 hb4 hk
  obtain⟨hBv,gv⟩:=HV.out _ (Below.refl _ _)
  obtain⟨hBy,ru,y0,y1,y2⟩:=HY.out _ hBv
  have v0:=Qa (i:=0) gv
  simp only[List.getElem?_toArray,List.getElem?_cons_zero]at v0
  go_wp2_with fail
  refine (qJ9 u _ _ _ ru (by omega)).mono ?_
  rintro e w5 ⟨vL,rfl,ho5,hb5⟩
  obtain⟨Av,nv,rfl⟩:=ho5.shape
  have HSL:=hid (OwnP.sla ho5 (by unfold Big;have:=qZ1 u;omega))
  have hbs5:w.heap.size+2<=w5.heap.size:=by have:=hb5.size;simp at this;omega
  simp only[World.size_alloc]at HSL
  clear ho5
  have HBV:=hid (hb5.mono (show w4.heap.size+1<=_ by simp))
  have hs5:=HBV.out.size
  simp only[World.size_alloc]at hs5
  clear hBv gv hBy ru y0 y1 y2 v0 hb5
  obtain⟨hBv,gv⟩:=HV.out _ HBV.out
  obtain⟨hBx,_,_,_,_⟩:=HY.out _ hBv
  obtain⟨hBW,_,_,_,_,gz⟩:=HX.out _ hBx
  have HGV:=hid gv
  have HGZ:=hid gz
  have HBW:=hid hBW
  obtain⟨v0,v1,v2,v3,u0,u1,u2,u3⟩:=bz4 gv
  obtain⟨k0,k1,k2,k3,z0,z1,z2,z3⟩:=bz4 gz
  have hne1:w4.heap.size≠w.heap.size+1:=by omega
  have hne2:w.heap.size+1≠w4.heap.size:=by omega
  clear hBv gv hBx hBW gz
  go_wp2_with fail
  have HG5:(w5.setCell ⟨w4.heap.size,3,none⟩ (.slice Av (Zp u).length nv)).heap[w.heap.size+1]?=some (.cells #[.int .i64 0,.bool false,.int .i64 0,.slice none 0 0] 55 (0,0)):=(Below.heap_setCell _ _ _ _ (by simp;omega)).trans HGZ.out
  have hS5:(w5.setCell ⟨w4.heap.size,3,none⟩ (.slice Av (Zp u).length nv)).heap.size=w5.heap.size:=by simp[World.setCell]
  obtain⟨r0,r1,r2,r3,hK,hS⟩:=box4 HG5 (.int .i64 2) (.bool false) (.int .i64 0) (.slice Av (Zp u).length nv)
  have hBB:=Q8 (HBW.out.setCell (p:=⟨w4.heap.size,3,none⟩) (by simp;omega) (.slice Av (Zp u).length nv)) (show w.heap.size<=w.heap.size+1 by omega) (.int .i64 2) (.bool false) (.int .i64 0) (.slice Av (Zp u).length nv)
  exact bodyPost_ret (v:=.tuple #[.agg #[.int .i64 2,.bool false,.int .i64 0,.slice Av (Zp u).length nv],.int .i64 0]) (by simp[results,Tryz.results47,go_sem,r0,r1,r2,r3]<;>rfl) rfl ⟨_,by rw[HVW.out.1,HVW.out.2];rfl,by
   rw[HVW.out.1]
   exact HSL.out.up (fun b hb=>(hK b (by have:=hb.1;omega)).trans (Below.heap_setCell _ _ _ _ (by have:=hb.1;simp;omega))) (fun b hb=>⟨by have:=hb.1;omega,by rw[hS,hS5];exact hb.2.1⟩) (fun _ _ _ h=>h),hBB⟩
 ·rw[hk]
  rintro e w4 ⟨rfl,hb4⟩
  have HBY:=hid (hb4.mono (show w3.heap.size+1<=_ by simp))
  have hs4:=HBY.out.size
  simp only[World.size_alloc]at hs4
  have HV:Hid (∀ W,Below (w4.heap.size+1) (w4.alloc (.cells #[.int .i64 3,.bool false,.int .i64 0,.slice none 0 0] 55)) W->(Below (w3.heap.size+1) (w3.alloc (.cells #[.slice Ar u.es.length nr,.slice Br u.ks.length mr] 25)) W/\W.heap[w4.heap.size]?=some (.cells #[.int .i64 3,.bool false,.int .i64 0,.slice none 0 0] 55 (0,0)))):=fun W hW=>
   ⟨HBY.out.trans ((((Below.refl _ w4).alloc (Nat.le_refl _) _).trans (hW.mono (by omega))).mono (by omega)),(hW.block w4.heap.size (by omega)).trans (Qd rfl)⟩
  have HVW:Hid (readV t path=viewK 3 u/\readI t path=0):=by
   have h0:readI t path=0:=by unfold readI;rw[HT.out,HI.out];rfl
   exact⟨by unfold readV;rw[if_pos h0,hk,HUK.out],h0⟩
  clear hBy ru y0 y1 y2 hb4 hk
  obtain⟨hBv,gv⟩:=HV.out _ (Below.refl _ _)
  obtain⟨hBy,ru,y0,y1,y2⟩:=HY.out _ hBv
  have v0:=Qa (i:=0) gv
  simp only[List.getElem?_toArray,List.getElem?_cons_zero]at v0
  go_wp2_with fail
  refine (qKd u _ _ _ ru).mono ?_
  rintro e w5 ⟨rfl,hb5⟩
  have HBV:=hid (hb5.mono (show w4.heap.size+1<=_ by simp))
  have hs5:=HBV.out.size
  simp only[World.size_alloc]at hs5
  clear hBv gv hBy ru y0 y1 y2 v0 hb5
  obtain⟨hBv,gv⟩:=HV.out _ HBV.out
  obtain⟨hBx,_,_,_,_⟩:=HY.out _ hBv
  obtain⟨hBW,_,_,_,_,gz⟩:=HX.out _ hBx
  have HGV:=hid gv
  have HGZ:=hid gz
  have HBW:=hid hBW
  obtain⟨v0,v1,v2,v3,u0,u1,u2,u3⟩:=bz4 gv
  obtain⟨k0,k1,k2,k3,z0,z1,z2,z3⟩:=bz4 gz
  have hne1:w4.heap.size≠w.heap.size+1:=by omega
  have hne2:w.heap.size+1≠w4.heap.size:=by omega
  clear hBv gv hBx hBW gz
  go_wp2_with fail
  have HG5:(w5.setCell ⟨w4.heap.size,2,none⟩ (.int .i64 (valT u))).heap[w.heap.size+1]?=some (.cells #[.int .i64 0,.bool false,.int .i64 0,.slice none 0 0] 55 (0,0)):=(Below.heap_setCell _ _ _ _ (by simp;omega)).trans HGZ.out
  have hS5:(w5.setCell ⟨w4.heap.size,2,none⟩ (.int .i64 (valT u))).heap.size=w5.heap.size:=by simp[World.setCell]
  obtain⟨r0,r1,r2,r3,hK,hS⟩:=box4 HG5 (.int .i64 3) (.bool false) (.int .i64 (valT u)) (.slice none 0 0)
  have hBB:=Q8 (HBW.out.setCell (p:=⟨w4.heap.size,2,none⟩) (by simp;omega) (.int .i64 (valT u))) (show w.heap.size<=w.heap.size+1 by omega) (.int .i64 3) (.bool false) (.int .i64 (valT u)) (.slice none 0 0)
  exact bodyPost_ret (v:=.tuple #[.agg #[.int .i64 3,.bool false,.int .i64 (valT u),.slice none 0 0],.int .i64 0]) (by simp[results,Tryz.results47,go_sem,r0,r1,r2,r3]<;>rfl) rfl ⟨_,by rw[HVW.out.1,HVW.out.2];rfl,by rw[HVW.out.1];exact SlA.nil,hBB⟩
 ·rw[hk]
  rintro e w4 ⟨rfl,hb4⟩
  have HBY:=hid (hb4.mono (show w3.heap.size+1<=_ by simp))
  have hs4:=HBY.out.size
  simp only[World.size_alloc]at hs4
  have HV:Hid (∀ W,Below (w4.heap.size+1) (w4.alloc (.cells #[.int .i64 4,.bool false,.int .i64 0,.slice none 0 0] 55)) W->(Below (w3.heap.size+1) (w3.alloc (.cells #[.slice Ar u.es.length nr,.slice Br u.ks.length mr] 25)) W/\W.heap[w4.heap.size]?=some (.cells #[.int .i64 4,.bool false,.int .i64 0,.slice none 0 0] 55 (0,0)))):=fun W hW=>
   ⟨HBY.out.trans ((((Below.refl _ w4).alloc (Nat.le_refl _) _).trans (hW.mono (by omega))).mono (by omega)),(hW.block w4.heap.size (by omega)).trans (Qd rfl)⟩
  have HVW:Hid (readV t path=viewK 4 u/\readI t path=0):=by
   have h0:readI t path=0:=by unfold readI;rw[HT.out,HI.out];rfl
   exact⟨by unfold readV;rw[if_pos h0,hk,HUK.out],h0⟩
  clear hBy ru y0 y1 y2 hb4 hk
  obtain⟨hBv,gv⟩:=HV.out _ (Below.refl _ _)
  obtain⟨hBy,ru,y0,y1,y2⟩:=HY.out _ hBv
  have v0:=Qa (i:=0) gv
  simp only[List.getElem?_toArray,List.getElem?_cons_zero]at v0
  go_wp2_with fail
  refine (qVs u _ _ _ ru (by omega)).mono ?_
  rintro e w5 ⟨vL,rfl,ho5,hb5⟩
  obtain⟨Av,nv,rfl⟩:=ho5.shape
  have HSL:=hid (OwnP.sla ho5 (by unfold Big;have:=zQ7 u;omega))
  have hbs5:w.heap.size+2<=w5.heap.size:=by have:=hb5.size;simp at this;omega
  simp only[World.size_alloc]at HSL
  clear ho5
  have HBV:=hid (hb5.mono (show w4.heap.size+1<=_ by simp))
  have hs5:=HBV.out.size
  simp only[World.size_alloc]at hs5
  clear hBv gv hBy ru y0 y1 y2 v0 hb5
  obtain⟨hBv,gv⟩:=HV.out _ HBV.out
  obtain⟨hBx,_,_,_,_⟩:=HY.out _ hBv
  obtain⟨hBW,_,_,_,_,gz⟩:=HX.out _ hBx
  have HGV:=hid gv
  have HGZ:=hid gz
  have HBW:=hid hBW
  obtain⟨v0,v1,v2,v3,u0,u1,u2,u3⟩:=bz4 gv
  obtain⟨k0,k1,k2,k3,z0,z1,z2,z3⟩:=bz4 gz
  have hne1:w4.heap.size≠w.heap.size+1:=by omega
  have hne2:w.heap.size+1≠w4.heap.size:=by omega
  clear hBv gv hBx hBW gz
  go_wp2_with fail
  have HG5:(w5.setCell ⟨w4.heap.size,3,none⟩ (.slice Av (Z2 u).length nv)).heap[w.heap.size+1]?=some (.cells #[.int .i64 0,.bool false,.int .i64 0,.slice none 0 0] 55 (0,0)):=(Below.heap_setCell _ _ _ _ (by simp;omega)).trans HGZ.out
  have hS5:(w5.setCell ⟨w4.heap.size,3,none⟩ (.slice Av (Z2 u).length nv)).heap.size=w5.heap.size:=by simp[World.setCell]
  obtain⟨r0,r1,r2,r3,hK,hS⟩:=box4 HG5 (.int .i64 4) (.bool false) (.int .i64 0) (.slice Av (Z2 u).length nv)
  have hBB:=Q8 (HBW.out.setCell (p:=⟨w4.heap.size,3,none⟩) (by simp;omega) (.slice Av (Z2 u).length nv)) (show w.heap.size<=w.heap.size+1 by omega) (.int .i64 4) (.bool false) (.int .i64 0) (.slice Av (Z2 u).length nv)
  exact bodyPost_ret (v:=.tuple #[.agg #[.int .i64 4,.bool false,.int .i64 0,.slice Av (Z2 u).length nv],.int .i64 0]) (by simp[results,Tryz.results47,go_sem,r0,r1,r2,r3]<;>rfl) rfl ⟨_,by rw[HVW.out.1,HVW.out.2];rfl,by
   rw[HVW.out.1]
   exact HSL.out.up (fun b hb=>(hK b (by have:=hb.1;omega)).trans (Below.heap_setCell _ _ _ _ (by have:=hb.1;simp;omega))) (fun b hb=>⟨by have:=hb.1;omega,by rw[hS,hS5];exact hb.2.1⟩) (fun _ _ _ h=>h),hBB⟩
 ·rw[hk]
  rintro e w4 ⟨rfl,hb4⟩
  have HBY:=hid (hb4.mono (show w3.heap.size+1<=_ by simp))
  have hs4:=HBY.out.size
  simp only[World.size_alloc]at hs4
  have HV:Hid (∀ W,Below (w4.heap.size+1) (w4.alloc (.cells #[.int .i64 5,.bool false,.int .i64 0,.slice none 0 0] 55)) W->(Below (w3.heap.size+1) (w3.alloc (.cells #[.slice Ar u.es.length nr,.slice Br u.ks.length mr] 25)) W/\W.heap[w4.heap.size]?=some (.cells #[.int .i64 5,.bool false,.int .i64 0,.slice none 0 0] 55 (0,0)))):=fun W hW=>
   ⟨HBY.out.trans ((((Below.refl _ w4).alloc (Nat.le_refl _) _).trans (hW.mono (by omega))).mono (by omega)),(hW.block w4.heap.size (by omega)).trans (Qd rfl)⟩
  have HVW:Hid (readV t path=viewK 5 u/\readI t path=0):=by
   have h0:readI t path=0:=by unfold readI;rw[HT.out,HI.out];rfl
   exact⟨by unfold readV;rw[if_pos h0,hk,HUK.out],h0⟩
  clear hBy ru y0 y1 y2 hb4 hk
  obtain⟨hBv,gv⟩:=HV.out _ (Below.refl _ _)
  obtain⟨hBy,ru,y0,y1,y2⟩:=HY.out _ hBv
  have v0:=Qa (i:=0) gv
  simp only[List.getElem?_toArray,List.getElem?_cons_zero]at v0
  go_wp2_with fail
  refine (qVr u _ _ _ ru (by omega)).mono ?_
  rintro e w5 ⟨vL,rfl,ho5,hb5⟩
  obtain⟨Av,nv,rfl⟩:=ho5.shape
  have HSL:=hid (OwnP.sla ho5 (by unfold Big;have:=zQ8 u;omega))
  have hbs5:w.heap.size+2<=w5.heap.size:=by have:=hb5.size;simp at this;omega
  simp only[World.size_alloc]at HSL
  clear ho5
  have HBV:=hid (hb5.mono (show w4.heap.size+1<=_ by simp))
  have hs5:=HBV.out.size
  simp only[World.size_alloc]at hs5
  clear hBv gv hBy ru y0 y1 y2 v0 hb5
  obtain⟨hBv,gv⟩:=HV.out _ HBV.out
  obtain⟨hBx,_,_,_,_⟩:=HY.out _ hBv
  obtain⟨hBW,_,_,_,_,gz⟩:=HX.out _ hBx
  have HGV:=hid gv
  have HGZ:=hid gz
  have HBW:=hid hBW
  obtain⟨v0,v1,v2,v3,u0,u1,u2,u3⟩:=bz4 gv
  obtain⟨k0,k1,k2,k3,z0,z1,z2,z3⟩:=bz4 gz
  have hne1:w4.heap.size≠w.heap.size+1:=by omega
  have hne2:w.heap.size+1≠w4.heap.size:=by omega
  clear hBv gv hBx hBW gz
  go_wp2_with fail
  have HG5:(w5.setCell ⟨w4.heap.size,3,none⟩ (.slice Av (Yl u).length nv)).heap[w.heap.size+1]?=some (.cells #[.int .i64 0,.bool false,.int .i64 0,.slice none 0 0] 55 (0,0)):=(Below.heap_setCell _ _ _ _ (by simp;omega)).trans HGZ.out
  have hS5:(w5.setCell ⟨w4.heap.size,3,none⟩ (.slice Av (Yl u).length nv)).heap.size=w5.heap.size:=by simp[World.setCell]
  obtain⟨r0,r1,r2,r3,hK,hS⟩:=box4 HG5 (.int .i64 5) (.bool false) (.int .i64 0) (.slice Av (Yl u).length nv)
  have hBB:=Q8 (HBW.out.setCell (p:=⟨w4.heap.size,3,none⟩) (by simp;omega) (.slice Av (Yl u).length nv)) (show w.heap.size<=w.heap.size+1 by omega) (.int .i64 5) (.bool false) (.int .i64 0) (.slice Av (Yl u).length nv)
  exact bodyPost_ret (v:=.tuple #[.agg #[.int .i64 5,.bool false,.int .i64 0,.slice Av (Yl u).length nv],.int .i64 0]) (by simp[results,Tryz.results47,go_sem,r0,r1,r2,r3]<;>rfl) rfl ⟨_,by rw[HVW.out.1,HVW.out.2];rfl,by
   rw[HVW.out.1]
   exact HSL.out.up (fun b hb=>(hK b (by have:=hb.1;omega)).trans (Below.heap_setCell _ _ _ _ (by have:=hb.1;simp;omega))) (fun b hb=>⟨by have:=hb.1;omega,by rw[hS,hS5];exact hb.2.1⟩) (fun _ _ _ h=>h),hBB⟩
section
variable {w:World}{G N:Kn}{ops:List Opr}{g:Nat}{okp:Nat->Prop}{v:Nat->V3}{vo:Value}
theorem qKh (path:List ByteArray)(vp:Value)(h:TxB w g okp v vo G N ops)(hp:SlP w w.heap.size 1 StE vp path)(hN:N.1.sz<=4000) :
  Calls Tryz.prog 21 #[.pointer (some ⟨g,0,none⟩),vp] w (RetVE w (readV N.1 path) (readI N.1 path)):=by
 have HP:=hid hp
 obtain⟨A5,c5,rfl,_⟩:=hp
 have HST:=hid h
 have hgl:=h.lt
 obtain⟨a1,b1,c1,hv1⟩:∃ a b c,v 1=(a,b,c):=⟨_,_,_,rfl⟩
 have hrN:=h.rdN
 rw[hv1]at hrN
 obtain⟨An,nn1,Bn,mn,e1,e2⟩:=Qj hrN
 simp only at e1 e2
 subst e1;subst e2
 have HV1:=hid hv1
 have HX:Hid (∀ W,Below (w.heap.size+1) (w.alloc (.cells #[.int .i64 0,.bool false,.int .i64 0,.slice none 0 0] 55)) W->(Below w.heap.size w W/\W.heap[w.heap.size]?=some (.cells #[.int .i64 0,.bool false,.int .i64 0,.slice none 0 0] 55 (0,0))/\N.1.rd W W.heap.size (.slice An N.1.es.length nn1) (.slice Bn N.1.ks.length mn)/\SlP W W.heap.size 1 StE (.slice A5 path.length c5) path/\W.cell? ⟨g,3,none⟩=some (.slice An N.1.es.length nn1)/\W.cell? ⟨g,4,none⟩=some (.slice Bn N.1.ks.length mn))):=fun W hW=>by
  have hB:Below w.heap.size w W:=((Below.refl _ w).alloc (Nat.le_refl _) _).trans (hW.mono (by omega))
  have hs:=HST.out.grow hB
  have r1:=hs.rdN
  obtain⟨_,_,_,d3,d4,_⟩:=hs.cells
  rw[HV1.out]at r1 d3 d4
  exact⟨hB,(hW.block _ (by omega)).trans (Qd rfl),r1,HP.out.imp hB hB.size fun _ _ _ h=>h,d3,d4⟩
 obtain⟨V,HV⟩:∃ V,Hid (readV N.1 path=V):=⟨_,rfl⟩
 obtain⟨I,HI⟩:∃ V,Hid (readI N.1 path=V):=⟨_,rfl⟩
 rw[HV.out,HI.out]
 clear h hv1 hrN
 go_enter Tryz.func21,Tryz.ntmps21
 obtain⟨hB,_,r1,r2,y0,y1⟩:=HX.out _ (Below.refl _ _)
 have hgw:g≠w.heap.size:=by omega
 go_wp2_with fail
 refine (qKg N.1 path _ _ _ _ r1 r2 hN).mono ?_
 rw[HV.out,HI.out]
 obtain⟨vk,von,vn,vls⟩:=V
 rintro e w6 ⟨vl6,rfl,hsl6,hb6⟩
 obtain⟨A6,n6,hv6⟩:=hsl6.shape
 subst hv6
 have hB6:Below (w.heap.size+1) (w.alloc (.cells #[.int .i64 0,.bool false,.int .i64 0,.slice none 0 0] 55)) w6:=hb6.mono (by simp)
 have HB6:=hid hB6
 have HSL6:=hid hsl6
 obtain⟨hBw,hG,_⟩:=HX.out _ hB6
 have HG:=hid hG
 have HBW:=hid hBw
 obtain⟨k0,k1,k2,k3,z0,z1,z2,z3⟩:=bz4 hG
 have hlt6:=lt_of_block hG
 clear hG hBw hB6 hb6 hsl6 hB r1 r2 y0 y1
 go_wp2_with fail
 obtain⟨r0,r1,r2,r3,hK,hS⟩:=box4 HG.out (.int .i64 vk) (.bool von) (.int .i64 vn) (.slice A6 vls.length n6)
 have hBW:=Q8 HBW.out (show w.heap.size<=w.heap.size from Nat.le_refl _) (.int .i64 vk) (.bool von) (.int .i64 vn) (.slice A6 vls.length n6)
 exact bodyPost_ret (v:=.tuple #[.agg #[.int .i64 vk,.bool von,.int .i64 vn,.slice A6 vls.length n6],.int .i64 I]) (by simp[results,Tryz.results21,go_sem,r0,r1,r2,r3]<;>rfl) rfl ⟨_,rfl,HSL6.out.up (fun b hb=>hK b (by have:=hb.1;simp only[World.size_alloc]at this;omega)) (fun b hb=>⟨by have:=hb.1;simp only[World.size_alloc]at this;omega,by rw[hS];exact hb.2⟩) (fun _ _ _ h=>h),hBW⟩
end
def NoKd (x:Int)(n:Nat):Prop:=(0<n->(x==102)=false)/\(1<n->(x==115)=false)/\(2<n->(x==99)=false)/\(3<n->(x==114)=false)/\(4<n->(x==109)=false)
theorem let0:((({ data:=#[102,115,99,114,109] }:ByteArray)[0]'(by decide)).toNat:Int)=102:=rfl
theorem let1:((({ data:=#[102,115,99,114,109] }:ByteArray)[1]'(by decide)).toNat:Int)=115:=rfl
theorem let2:((({ data:=#[102,115,99,114,109] }:ByteArray)[2]'(by decide)).toNat:Int)=99:=rfl
theorem let3:((({ data:=#[102,115,99,114,109] }:ByteArray)[3]'(by decide)).toNat:Int)=114:=rfl
theorem let4:((({ data:=#[102,115,99,114,109] }:ByteArray)[4]'(by decide)).toNat:Int)=109:=rfl
theorem Xf (k:ByteArray)(w:World)(hk:k.size<=Big) :
  Calls Tryz.prog 51 #[.string k] w fun e w'=>e=.returned (.int .i64 (kindB k))/\Below w.heap.size w w':=by
 unfold Big at hk
 by_cases h0:0<k.size
 ·have HK:=hid (qQz h0)
  go_enter Tryz.func51,Tryz.ntmps51
  go_wp2_with fail
  go_loopw [7] (fun i wr=>∃ n:Nat,n<=5/\i=.int .i64 n/\Hid (NoKd (k[0].toNat:Int) n)/\Below w.heap.size w wr) (fun i _=>5-(intOf i).toNat)
  case atStart=>exact⟨0,by omega,rfl,⟨fun h=>by omega,fun h=>by omega,fun h=>by omega,fun h=>by omega,fun h=>by omega⟩,Below.refl _ _⟩
  case round=>
   obtain⟨n,hn,rfl,hno,hb⟩:=hrel
   rcases (show n=0∨n=1∨n=2∨n=3∨n=4∨n=5 by omega) with rfl|rfl|rfl|rfl|rfl|rfl
   ·skip
    go_upto_region 5 with (fail)
    refine Qc wr.heap.size (by kernel_rfl) (by kernel_rfl) ?_
    repeat (go_big_quiet_step (fail))
    refine wpQuiet_nil ?_
    intro wq hbq
    have hB:=hb.trans (hbq.mono hb.size)
    clear hbq
    simp only[let0]
    go_wp2_with fail
    all_goals first
     |(refine⟨⟨1,by omega,by go_num,⟨fun _=>by assumption,fun h=>(by omega),fun h=>(by omega),fun h=>(by omega),fun h=>(by omega)⟩,hB⟩,?_⟩;simp[intOf];done)
     |(go_ret;exact⟨Qn (by rw[HK.out];simp_all),hB⟩)
     |trace_state
   ·have k0:=hno.out.1 (by omega)
    have HN0:=hid k0
    go_upto_region 5 with (fail)
    refine Qc wr.heap.size (by kernel_rfl) (by kernel_rfl) ?_
    repeat (go_big_quiet_step (fail))
    refine wpQuiet_nil ?_
    intro wq hbq
    have hB:=hb.trans (hbq.mono hb.size)
    clear hbq
    simp only[let1]
    go_wp2_with fail
    all_goals first
     |(refine⟨⟨2,by omega,by go_num,⟨fun _=>HN0.out,fun _=>by assumption,fun h=>(by omega),fun h=>(by omega),fun h=>(by omega)⟩,hB⟩,?_⟩;simp[intOf];done)
     |(go_ret;exact⟨Qn (by rw[HK.out];simp_all),hB⟩)
     |trace_state
   ·have k0:=hno.out.1 (by omega)
    have HN0:=hid k0
    have k1:=hno.out.2.1 (by omega)
    have HN1:=hid k1
    go_upto_region 5 with (fail)
    refine Qc wr.heap.size (by kernel_rfl) (by kernel_rfl) ?_
    repeat (go_big_quiet_step (fail))
    refine wpQuiet_nil ?_
    intro wq hbq
    have hB:=hb.trans (hbq.mono hb.size)
    clear hbq
    simp only[let2]
    go_wp2_with fail
    all_goals first
     |(refine⟨⟨3,by omega,by go_num,⟨fun _=>HN0.out,fun _=>HN1.out,fun _=>by assumption,fun h=>(by omega),fun h=>(by omega)⟩,hB⟩,?_⟩;simp[intOf];done)
     |(go_ret;exact⟨Qn (by rw[HK.out];simp_all),hB⟩)
     |trace_state
   ·have k0:=hno.out.1 (by omega)
    have HN0:=hid k0
    have k1:=hno.out.2.1 (by omega)
    have HN1:=hid k1
    have k2:=hno.out.2.2.1 (by omega)
    have HN2:=hid k2
    go_upto_region 5 with (fail)
    refine Qc wr.heap.size (by kernel_rfl) (by kernel_rfl) ?_
    repeat (go_big_quiet_step (fail))
    refine wpQuiet_nil ?_
    intro wq hbq
    have hB:=hb.trans (hbq.mono hb.size)
    clear hbq
    simp only[let3]
    go_wp2_with fail
    all_goals first
     |(refine⟨⟨4,by omega,by go_num,⟨fun _=>HN0.out,fun _=>HN1.out,fun _=>HN2.out,fun _=>by assumption,fun h=>(by omega)⟩,hB⟩,?_⟩;simp[intOf];done)
     |(go_ret;exact⟨Qn (by rw[HK.out];simp_all),hB⟩)
     |trace_state
   ·have k0:=hno.out.1 (by omega)
    have HN0:=hid k0
    have k1:=hno.out.2.1 (by omega)
    have HN1:=hid k1
    have k2:=hno.out.2.2.1 (by omega)
    have HN2:=hid k2
    have k3:=hno.out.2.2.2.1 (by omega)
    have HN3:=hid k3
    go_upto_region 5 with (fail)
    refine Qc wr.heap.size (by kernel_rfl) (by kernel_rfl) ?_
    repeat (go_big_quiet_step (fail))
    refine wpQuiet_nil ?_
    intro wq hbq
    have hB:=hb.trans (hbq.mono hb.size)
    clear hbq
    simp only[let4]
    go_wp2_with fail
    all_goals first
     |(refine⟨⟨5,by omega,by go_num,⟨fun _=>HN0.out,fun _=>HN1.out,fun _=>HN2.out,fun _=>HN3.out,fun _=>by assumption⟩,hB⟩,?_⟩;simp[intOf];done)
     |(go_ret;exact⟨Qn (by rw[HK.out];simp_all),hB⟩)
     |trace_state
   ·have k0:=hno.out.1 (by omega)
    have HN0:=hid k0
    clear k0
    have k1:=hno.out.2.1 (by omega)
    have HN1:=hid k1
    clear k1
    have k2:=hno.out.2.2.1 (by omega)
    have HN2:=hid k2
    clear k2
    have k3:=hno.out.2.2.2.1 (by omega)
    have HN3:=hid k3
    clear k3
    have k4:=hno.out.2.2.2.2 (by omega)
    have HN4:=hid k4
    clear k4
    go_wp2_with fail
    go_ret
    exact⟨Qn (by rw[HK.out,HN0.out,HN1.out,HN2.out,HN3.out,HN4.out];rfl),hb⟩
 ·rw[qY4 h0]
  have h0':k.size=0:=by omega
  go_enter Tryz.func51,Tryz.ntmps51
  go_wp2_with fail
  go_loopw [7] (fun i wr=>∃ n:Nat,n<=5/\i=.int .i64 n/\Below w.heap.size w wr) (fun i _=>5-(intOf i).toNat)
  case atStart=>exact⟨0,by omega,rfl,Below.refl _ _⟩
  case round=>
   obtain⟨n,hn,rfl,hb⟩:=hrel
   by_cases h5:n<5
   ·go_upto_region 5 with (fail)
    refine Qc wr.heap.size (by kernel_rfl) (by kernel_rfl) ?_
    repeat (go_big_quiet_step (fail))
    refine wpQuiet_nil ?_
    intro wq hbq
    have hB:=hb.trans (hbq.mono hb.size)
    clear hbq
    go_wp2_with fail
    all_goals (refine⟨⟨n+1,by omega,by go_num,hB⟩,?_⟩;simp[intOf];omega)
   ·obtain rfl:n=5:=by omega
    go_wp2_with fail
    go_ret
    exact⟨rfl,hb⟩
theorem zZ5 {α:Type}{f:α->Bool}{l:List α}(h:∀ (j:Nat) x,j<l.length->l[j]?=some x->f x=false):l.any f=false:=by
 rw[List.any_eq_false]
 intro x hx
 obtain⟨j,hj⟩:=List.getElem?_of_mem hx
 rw[h j x (List.getElem?_eq_some_iff.1 hj).1 hj];simp
theorem qZ8 {α:Type}{f:α->Bool}{l:List α}{j:Nat}{x:α}(h:l[j]?=some x)(hf:f x=true):l.any f=true:=List.any_eq_true.2 ⟨x,List.mem_of_getElem? h,hf⟩
theorem qZ9 (p:List ByteArray)(vp:Value)(w:World)(h:SlP w w.heap.size 1 StE vp p) :
  Calls Tryz.prog 49 #[vp] w fun e w'=>e=.returned (.int .i64 (pathI p))/\Below w.heap.size w w':=by
 obtain⟨A,c,rfl,c1,c2,c3⟩:=h
 unfold Big at c2
 go_enter Tryz.func49,Tryz.ntmps49
 by_cases h1:p.length=0
 ·have hP:pathI p=1:=by unfold pathI;rw[if_pos (.inl (by omega))]
  rw[hP]
  clear hP
  go_wp2_with fail
  go_ret
  exact⟨rfl,Below.refl _ _⟩
 by_cases h3:3<p.length
 ·have hP:pathI p=1:=by unfold pathI;rw[if_pos (.inr (.inl h3))]
  rw[hP]
  clear hP
  have h1':((p.length:Int)==0)=false:=by simpa using h1
  go_wp2_with fail
  go_ret
  exact⟨rfl,Below.refl _ _⟩
 have h1':((p.length:Int)==0)=false:=by simpa using h1
 have h3':decide ((3:Int)<p.length)=false:=by simp;omega
 go_wp2_with fail
 go_loopw [15] (fun i wr=>∃ k:Nat,k<=p.length/\i=.int .i64 k/\Hid (∀ (j:Nat) x,j<k->p[j]?=some x->Q3 x=false)/\Below w.heap.size w wr) (fun i _=>p.length-(intOf i).toNat)
 case atStart=>exact⟨0,Nat.zero_le _,rfl,fun j x hj=>absurd hj (Nat.not_lt_zero _),Below.refl _ _⟩
 case round=>
  obtain⟨k,hk,rfl,hno,hb⟩:=hrel
  by_cases hlt:k<p.length
  ·obtain⟨x,hx⟩:∃ x,p[k]?=some x:=⟨_,List.getElem?_eq_getElem hlt⟩
   obtain⟨b,off,rfl,hbB,hc⟩:=c3 (by rintro rfl;simp at hlt)
   obtain⟨cs,⟨rfl,hok⟩,_,hu⟩:=hc k _ hx
   have e0:wr.cell? ⟨b,off+k,none⟩=some (.string x):=(hb.cell hbB).trans (by simpa using hu 0 _ rfl)
   have HX:=hid hx
   have HOK:=hid hok
   unfold Big at hok
   clear hu hc hx
   by_cases hl:30<x.size
   ·have HB:Hid (Q3 x=true):=by unfold Hid Q3;simp[hl]
    go_wp2_with fail
    go_ret
    exact⟨Qn (by unfold pathI;rw[if_pos (.inr (.inr (qZ8 HX.out HB.out)))]),hb⟩
   ·go_wp2_with fail
    refine (Xf x _ HOK.out).mono ?_
    by_cases hk0:kindB x=0
    ·have HB:Hid (Q3 x=true):=by unfold Hid Q3;simp[hk0]
     rw[hk0]
     rintro e w1 ⟨rfl,hb1⟩
     have hB:=hb.trans (hb1.mono hb.size)
     clear hk0
     go_wp2_with fail
     go_ret
     exact⟨Qn (by unfold pathI;rw[if_pos (.inr (.inr (qZ8 HX.out HB.out)))]),hB⟩
    ·have HB:Hid (Q3 x=false):=by unfold Hid Q3;simp[hk0];omega
     have hkz:(kindB x==0)=false:=by simpa using hk0
     rintro e w1 ⟨rfl,hb1⟩
     have hB:=hb.trans (hb1.mono hb.size)
     clear hk0
     go_wp2_with fail
     go_roundw
     case rel=>
      refine⟨k+1,by omega,by go_num,fun j y hj hy=>?_,hB⟩
      rcases (show j<k∨j=k by omega) with h|rfl
      ·exact hno.out j y h hy
      ·have:=HX.out;rw[hy]at this;cases this;exact HB.out
     case measure=>simp[intOf];omega
  ·obtain rfl:k=p.length:=by omega
   have HN:Hid (p.any Q3=false):=zZ5 hno.out
   have HPI:Hid (pathI p=if p.dropLast.any noMap then 6 else 0):=by unfold Hid pathI;rw[if_neg (by rintro (h|h|h)<;>first|omega|(rw[HN.out]at h;cases h))]
   obtain⟨wz,hwz⟩:∃ z,z=wr:=⟨_,rfl⟩
   subst hwz
   go_wp2_with fail
   go_loopw [35] (fun i wr=>∃ k:Nat,k<=p.length/\i=.int .i64 k/\Hid (∀ (j:Nat) x,j<k->p.dropLast[j]?=some x->noMap x=false)/\Below w.heap.size w wr) (fun i _=>p.length-(intOf i).toNat)
   case atStart=>exact⟨0,Nat.zero_le _,rfl,fun j x hj=>absurd hj (Nat.not_lt_zero _),hb⟩
   case round=>
    obtain⟨k,hk,rfl,hno2,hb⟩:=hrel
    by_cases hlt:k<p.length
    ·obtain⟨x,hx⟩:∃ x,p[k]?=some x:=⟨_,List.getElem?_eq_getElem hlt⟩
     obtain⟨b,off,rfl,hbB,hc⟩:=c3 (by rintro rfl;simp at hlt)
     obtain⟨cs,⟨rfl,hok⟩,_,hu⟩:=hc k _ hx
     have e0:wr.cell? ⟨b,off+k,none⟩=some (.string x):=(hb.cell hbB).trans (by simpa using hu 0 _ rfl)
     have HX:=hid hx
     have HOK:=hid hok
     clear hu hc hx hok
     by_cases hl:k+1<p.length
     ·have HD:Hid (p.dropLast[k]?=some x):=by unfold Hid;rw[List.dropLast_eq_take,List.getElem?_take,if_pos (by omega)];exact HX.out
      have hl':(k:Int)<(p.length:Int)-1:=by omega
      go_wp2_with fail
      refine (Xf x _ HOK.out).mono ?_
      by_cases hk5:kindB x=5
      ·have HB:Hid (noMap x=false):=by unfold Hid noMap;simp[hk5]
       rw[hk5]
       rintro e w1 ⟨rfl,hb1⟩
       have hB:=hb.trans (hb1.mono hb.size)
       clear hk5
       go_wp2_with fail
       go_roundw
       case rel=>
        refine⟨k+1,by omega,by go_num,fun j y hj hy=>?_,hB⟩
        rcases (show j<k∨j=k by omega) with h|rfl
        ·exact hno2.out j y h hy
        ·have:=HD.out;rw[hy]at this;cases this;exact HB.out
       case measure=>simp[intOf];omega
      ·have HB:Hid (noMap x=true):=by unfold Hid noMap;simp[hk5]
       have hkz:(kindB x==5)=false:=by simpa using hk5
       rintro e w1 ⟨rfl,hb1⟩
       have hB:=hb.trans (hb1.mono hb.size)
       clear hk5
       go_wp2_with fail
       go_ret
       exact⟨Qn (by rw[HPI.out,qZ8 HD.out HB.out];rfl),hB⟩
     ·have hl':¬(k:Int)<(p.length:Int)-1:=by omega
      go_wp2_with fail
      go_roundw
      case rel=>
       refine⟨k+1,by omega,by go_num,fun j y hj hy=>?_,hb⟩
       have hjl:=(List.getElem?_eq_some_iff.1 hy).1
       rw[List.length_dropLast]at hjl
       exact hno2.out j y (by omega) hy
      case measure=>simp[intOf];omega
    ·obtain rfl:k=p.length:=by omega
     have HN2:Hid (p.dropLast.any noMap=false):=zZ5 fun j x hj hx=>hno2.out j x (by rw[List.length_dropLast]at hj;omega) hx
     go_wp2_with fail
     go_ret
     exact⟨Qn (by rw[HPI.out,HN2.out];rfl),hb⟩
end Go.Proofs.YtbcoelggdikipaaGreat
