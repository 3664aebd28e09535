/- What the laws need. No condition but those that each lemma states. -/
import Derived.Lib.RowBridge
import Derived.Shelf.SlSortCmp.NoneTotal
import Derived.Shelf.Slices.CompactS
import Derived.Shelf.Slices.In.SortNone
import Derived.Shelf.Sort.Plain
import Derived.Sort.OwnSorted
import Derived.Test.YtidebdbjekijkaaGreatProg
import Derived.Test.YtidebdbjekijkaaGreatUm4
import Derived.Test.YtidebdbjekijkaaGreatUm2
import Derived.Test.YtidebdbjekijkaaGreatUm3
import Derived.Test.YtidebdbjekijkaaGreatUm1
set_option maxRecDepth 100000
set_option maxHeartbeats 8000000
set_option linter.unusedSimpArgs false
namespace Go.Proofs.YtidebdbjekijkaaGreat
open Go.RowKit
theorem KM:∀ (c:List Sp) (L:Int),c.Pairwise (fun a b=>a.dc<=b.dc)->(∀ s∈c,L<=s.dc/\s.dc<4)->dcsOk L c=true
 |[],_,_,_=>rfl
 |s :: c,L,hp,ha=>by
  rw[List.pairwise_cons]at hp
  rw[dcsOk,KM c s.dc hp.2 (fun x hx=>⟨hp.1 x hx,(ha x (by simp[hx])).2⟩)]
  have:=ha s (by simp)
  simp[this]
theorem Y5 (ls:Nat->List (Int×Int)):∀ k,∀ s∈QB ls k,0<=s.dc/\s.dc<k
 |0,s,h=>by simp[QB]at h
 |k+1,s,h=>by
  rw[Zb]at h
  rcases List.mem_append.1 h with h|h
  ·have:=Y5 ls k s h;omega
  ·obtain⟨r,_,rfl⟩:=List.mem_map.1 h
   show 0<=(k:Int)/\(k:Int)<_
   omega
theorem Jp (ls:Nat->List (Int×Int)):∀ k,(QB ls k).Pairwise fun a b=>a.dc<=b.dc
 |0=>by simp[QB]
 |k+1=>by
  rw[Zb,List.pairwise_append]
  refine⟨Jp ls k,?_,fun a ha b hb=>?_⟩
  ·unfold Qt
   rw[List.pairwise_map]
   exact List.pairwise_of_forall fun _ _=>Int.le_refl _
  ·obtain⟨r,_,rfl⟩:=List.mem_map.1 hb
   have:=Y5 ls k a ha
   show a.dc<=(k:Int)
   omega
theorem Jq (a b:List Sp)(dc:Int):partL (a++b) dc=partL a dc++partL b dc:=by simp[partL]
theorem Y6 (l:List (Int×Int))(d dc:Int):partL (Qt d l) dc=if d=dc then l else []:=by
 unfold partL Qt
 rw[List.filter_map,List.map_map]
 by_cases e:d=dc
 ·rw[if_pos e]
  rw[List.filter_eq_self.2 (fun x _=>by simp[e])]
  exact List.map_id'' (fun x=>rfl) l
 ·rw[if_neg e,List.filter_eq_nil_iff.2 (fun x _=>by simp[e])];rfl
theorem Zs (ls:Nat->List (Int×Int)):∀ (k d:Nat),partL (QB ls k) d=if d<k then ls d else []
 |0,d=>by simp[QB,partL]
 |k+1,d=>by
  rw[Zb,Jq,Zs ls k d,Y6]
  by_cases e:d=k
  ·subst e;rw[if_neg (Nat.lt_irrefl _),if_pos rfl,if_pos (Nat.lt_succ_self _)];rfl
  ·rw[if_neg (show ¬(k:Int)=(d:Int) by omega),List.append_nil]
   by_cases h:d<k
   ·rw[if_pos h,if_pos (by omega)]
   ·rw[if_neg h,if_neg (by omega)]
theorem Y7 {ls:Nat->List (Int×Int)}(h:∀ i,i<4->runsR none (ls i)=true):Ql (QB ls 4)=true:=by
 unfold Ql
 rw[KM _ 0 (Jp ls 4) (fun s hs=>by have:=Y5 ls 4 s hs;omega),Bool.true_and,List.all_eq_true]
 intro i hi
 have hi4:i<4:=List.mem_range.1 hi
 rw[Zs,if_pos hi4]
 exact h i hi4
theorem KN {ls ms:Nat->List (Int×Int)}(h:∀ i,i<4->ls i=ms i):QB ls 4=QB ms 4:=by
 unfold QB
 rw[List.flatMap_def,List.flatMap_def]
 congr 1
 apply List.map_congr_left
 intro i hi
 rw[h i (List.mem_range.1 hi)]
theorem ZT (l:List Dt):ctxOf l=QB (fun i=>ofL (numsL l i)) 4:=rfl
theorem qQk {l:List Dt}(h:∀ d∈l,d.right=true)(dc:Int):∀ x∈numsL l dc,1<=x/\x<=1099511627776:=fun x hx=>by
 unfold numsL at hx
 obtain⟨d,hd,rfl⟩:=List.mem_map.1 hx
 have h1:=h d (List.mem_filter.1 hd).1
 simp[Dt.right]at h1
 omega
theorem QM {l:List Dt}(h:∀ d∈l,d.right=true):Ql (ctxOf l)=true:=by
 rw[ZT]
 exact Y7 fun i _=>(Yc (qQk h i)).1
theorem Vs (l:List Dt){d:Nat}(hd:d<4):partL (ctxOf l) d=ofL (numsL l d):=by
 rw[ZT,Zs,if_pos hd]
theorem qYr {c:List Sp}(h:Ql c=true)(d:Dt):cHas c d=hasC c d:=by
 unfold cHas hasC sHas
 rw[h,Bool.true_and]
 cases hd:d.right with
 |false=>rfl
 |true=>
  simp only[Bool.true_and]
  have hb:0<=d.dc/\d.dc<4:=by simp[Dt.right]at hd;omega
  obtain⟨n,hn⟩:∃ n:Nat,d.dc=(n:Int):=⟨d.dc.toNat,by omega⟩
  unfold Ql at h
  rw[Bool.and_eq_true,List.all_eq_true]at h
  have:=h.2 n (List.mem_range.2 (by omega))
  rw[hn,this];rfl
theorem ZG {l:List Dt}(h:∀ d∈l,d.right=true){d:Dt}(hd:d.right=true):hasC (ctxOf l) d=decide (d∈l):=by
 have hb:0<=d.dc/\d.dc<4:=by simp[Dt.right]at hd;omega
 obtain⟨n,hn⟩:∃ n:Nat,d.dc=(n:Int):=⟨d.dc.toNat,by omega⟩
 unfold hasC
 rw[hd,Bool.true_and,hn,Vs l (by omega),Bool.eq_iff_iff,(Yc (qQk h n)).2,decide_eq_true_eq]
 unfold numsL
 rw[List.mem_map]
 constructor
 ·rintro⟨x,hx,he⟩
  obtain⟨hx1,hx2⟩:=List.mem_filter.1 hx
  have:x=d:=by cases x;cases d;simp at *;exact⟨hx2.trans hn.symm,he⟩
  rw[←this];exact hx1
 ·intro hm
  exact⟨d,List.mem_filter.2 ⟨hm,by simp[hn]⟩,rfl⟩
theorem Xd (x:En):Zv [([],x)]=.mk [x] []:=by
 unfold Zv deepL
 simp only[List.map_cons,List.map_nil,List.length_nil,List.sum_cons,List.sum_nil,Nat.add_zero]
 rw[Kt]
 have h1:Zy [([],x)]=[x]:=by
  unfold Zy
  have hi:=Zl x.dot
  simp[Xh,bestE,selS,selC,okP,hi]
 have h2:bestK [(([]:List ByteArray),x)] ByteArray.empty=ByteArray.empty:=by simp[bestK,keyS,keyC]
 rw[h1]
 simp[ZO,h2]
theorem qYv:ofL []=[]:=by simp[ofL,ofGo,nextL]
theorem qYw {n:Int}(h:1<=n/\n<=1099511627776):ofL [n]=[(n,n)]:=by
 obtain⟨h1,h2⟩:=Yc (ps:=[n]) (fun x hx=>by simp at hx;subst hx;exact h)
 refine ZR _ _ none none h1 ((Za none (n,n)).2 ⟨⟨h.1,Int.le_refl _,h.2⟩,rfl⟩) fun m=>?_
 rw[Bool.eq_iff_iff,h2]
 simp[hasL,inR]
 omega
theorem KU {d:Dt}(h:d.right=true):(0<=d.dc/\d.dc<4)/\1<=d.n/\d.n<=1099511627776:=by simpa[Dt.right,and_assoc] using h
theorem qQr {d:Dt}(h:d.right=true):ctxOf [d]=[⟨d.dc,d.n,d.n⟩]:=by
 obtain⟨h1,h2⟩:=KU h
 rw[ZT]
 have hk:∀ i:Nat,ofL (numsL [d] (i:Int))=if d.dc=(i:Int) then [(d.n,d.n)] else []:=fun i=>by
  by_cases e:d.dc=(i:Int)
  ·rw[if_pos e,show numsL [d] (i:Int)=[d.n] by simp[numsL,e],qYw h2]
  ·rw[if_neg e,show numsL [d] (i:Int)=[] by simp[numsL,e],qYv]
 unfold QB
 simp only[hk]
 rcases (show d.dc=0∨d.dc=1∨d.dc=2∨d.dc=3 by omega) with e|e|e|e<;>simp[e,List.range_succ,Qt]
theorem ZU (a b:List Sp)(how:Int):ctxBy a b how=QB (fun i=>byL (partL a i) (partL b i) how) 4:=rfl
theorem J7:∀ (l:List (Int×Int)) (p:Option Int),runsR p l=true->∀ r∈l,runOk r
 |x :: l,p,h,r,hr=>by
  rw[Qo]at h
  rcases List.mem_cons.1 hr with rfl|hr
  ·exact h.1
  ·exact J7 l _ h.2.2 r hr
theorem Qs {c:List Sp}(h:Ql c=true){i:Nat}(hi:i<4):runsR none (partL c i)=true:=by
 unfold Ql at h
 rw[Bool.and_eq_true,List.all_eq_true]at h
 exact h.2 i (List.mem_range.2 hi)
theorem Yh:∀ (c:List Sp) (L:Int),dcsOk L c=true->∀ s∈c,L<=s.dc/\s.dc<4
 |s :: c,L,h,x,hx=>by
  rw[dcsOk,Bool.and_eq_true,Bool.and_eq_true,decide_eq_true_eq,decide_eq_true_eq]at h
  rcases List.mem_cons.1 hx with rfl|hx
  ·exact⟨h.1.1,h.1.2⟩
  ·have:=Yh c s.dc h.2 x hx;exact⟨by omega,this.2⟩
theorem Jz:∀ (c:List Sp) (L:Nat),dcsOk (L:Int) c=true->∀ n,L+n=4->c=(List.range' L n).flatMap fun (dc:Nat)=>Qt (dc:Int) (partL c (dc:Int))
 |c,L,h,0,hn=>by
  cases c with
  |nil=>rfl
  |cons s c=>have:=Yh _ _ h s (by simp);omega
 |c,L,h,n+1,hn=>by
  rw[List.range'_succ,List.flatMap_cons]
  have key:∀ (c:List Sp) (L:Int),dcsOk L c=true->∃ c',c=Qt L (partL c L)++c'/\dcsOk (L+1) c'=true:=by
   intro c
   induction c with
   |nil=>intro L _;exact⟨[],by simp[partL,Qt],rfl⟩
   |cons s c ih=>
    intro L h
    rw[dcsOk,Bool.and_eq_true,Bool.and_eq_true,decide_eq_true_eq,decide_eq_true_eq]at h
    obtain⟨⟨h1,h2⟩,h3⟩:=h
    by_cases e:s.dc=L
    ·rw[e]at h3
     obtain⟨c',hc,hd⟩:=ih L h3
     refine⟨c',?_,hd⟩
     have hp:partL (s :: c) L=(s.fr,s.hi) :: partL c L:=by simp[partL,e]
     rw[hp]
     conv=>lhs;rw[hc]
     unfold Qt
     rw[List.map_cons,List.cons_append]
     congr 1
     cases s;simp at e;simp[e]
    ·refine⟨s :: c,?_,?_⟩
     ·have hp:partL (s :: c) L=[]:=by
       unfold partL
       rw[List.filter_eq_nil_iff.2,List.map_nil]
       intro x hx
       have:s.dc<=x.dc:=by
        rcases List.mem_cons.1 hx with rfl|hx
        ·exact Int.le_refl _
        ·exact (Yh c s.dc h3 x hx).1
       simp;omega
      rw[hp];rfl
     ·rw[dcsOk,h3];simp;omega
  obtain⟨c',hc,hd⟩:=key c L h
  have ih:=Jz c' (L+1) (by exact_mod_cast hd) n (by omega)
  have hpc:∀ dc:Nat,L+1<=dc->partL c dc=partL c' dc:=fun dc hdc=>by
   rw[hc,Jq,Y6,if_neg (by omega)];rfl
  conv=>lhs;rw[hc,ih]
  congr 1
  rw[List.flatMap_def,List.flatMap_def]
  congr 1
  apply List.map_congr_left
  intro i hi
  rw[hpc i (by have:=List.mem_range'_1.1 hi;omega)]
theorem YG {c:List Sp}(h:Ql c=true):QB (fun i=>partL c i) 4=c:=by
 unfold Ql at h
 rw[Bool.and_eq_true]at h
 have:=Jz c 0 h.1 4 rfl
 unfold QB
 rw[List.range_eq_range']
 exact this.symm
theorem qQs {c:List Sp}(h:Ql c=true):ctxBy [] c 0=c:=by
 rw[ZU]
 conv=>rhs;rw[←YG h]
 refine KN fun i hi=>?_
 have hr:=Qs h hi
 have ha:∀ r∈partL ([]:List Sp) i,runOk r:=fun r hr=>by simp[partL]at hr
 obtain⟨h1,h2⟩:=Zz (a:=partL ([]:List Sp) i) (b:=partL c i) 0 ha (J7 _ _ hr)
 refine ZR _ _ none none h1 hr fun n=>?_
 rw[h2]
 simp[inn,hasL,partL]
theorem qYx {d:Dt}(h:d.right=true):ctxBy [] [⟨d.dc,d.n,d.n⟩] 0=ctxOf [d]:=by
 rw[←qQr h]
 exact qQs (QM fun x hx=>by simp at hx;subst hx;exact h)
theorem qZh (a b:List Sp)(va vb:Value)(w:World)(B:Nat)(ha:SlP w B 3 SpE va a)(hb:SlP w B 3 SpE vb b) :
  Calls Tryz.prog 122 #[va,vb] w fun e w'=>e=.returned (.bool (decide (a=b)))/\∃ n,w'=w.drewN n:=by
 obtain⟨A1,n1,rfl,b1,b2,b3⟩:=ha
 obtain⟨A2,n2,rfl,c1,c2,c3⟩:=hb
 unfold Big at b2 c2
 by_cases hl:a.length=b.length
 ·have hl':((a.length:Int) != (b.length:Int))=false:=by simp[hl]
  have HL:=hid hl
  clear hl
  have gg:=X4
  have nn:=VR
  go_enter Tryz.func122,Tryz.ntmps122
  go_wp2_with fail
  go_loopw [13] (fun i wr=>∃ k:Nat,k<=a.length/\i=.int .i64 k/\Hid (a.take k=b.take k)/\∃ n,wr=w.drewN n) (fun i _=>a.length-(intOf i).toNat)
  case atStart=>exact⟨0,Nat.zero_le _,rfl,rfl,0,rfl⟩
  case round=>
   obtain⟨k,hk,rfl,hrel,q,rfl⟩:=hrel
   by_cases hlt:k<a.length
   ·have hlt2:k<b.length:=by have:=HL.out;omega
    obtain⟨x,hx⟩:∃ x,a[k]?=some x:=⟨_,List.getElem?_eq_getElem hlt⟩
    obtain⟨y,hy⟩:∃ y,b[k]?=some y:=⟨_,List.getElem?_eq_getElem hlt2⟩
    obtain⟨ba,oa,rfl,hbA,hc⟩:=b3 (by rintro rfl;simp at hlt)
    obtain⟨bb,ob,rfl,hbB,hd⟩:=c3 (by rintro rfl;simp at hlt2)
    obtain⟨cs,⟨rfl,hok⟩,_,hu⟩:=hc k _ hx
    obtain⟨ds,⟨rfl,hok2⟩,_,hv⟩:=hd k _ hy
    have e0:w.cell? ⟨ba,oa+k*3,none⟩=some (.int .i64 x.dc):=hu 0 _ rfl
    have e1:w.cell? ⟨ba,oa+k*3+1,none⟩=some (.int .i64 x.fr):=hu 1 _ rfl
    have e2:w.cell? ⟨ba,oa+k*3+2,none⟩=some (.int .i64 x.hi):=hu 2 _ rfl
    have g0:w.cell? ⟨bb,ob+k*3,none⟩=some (.int .i64 y.dc):=hv 0 _ rfl
    have g1:w.cell? ⟨bb,ob+k*3+1,none⟩=some (.int .i64 y.fr):=hv 1 _ rfl
    have g2:w.cell? ⟨bb,ob+k*3+2,none⟩=some (.int .i64 y.hi):=hv 2 _ rfl
    have HT:=hid (QO hx hy hrel.out)
    have HXY:Hid (a=b->x=y):=fun e=>by subst e;rw[hx]at hy;exact Option.some.inj hy
    have hi1:((k:Int))<(a.length:Int):=by omega
    have hi2:((k:Int))<(b.length:Int):=by omega
    clear hu hv hc hd b3 c3 hx hy hok hok2
    rcases hxy:decide (x=y)
    ·have hne:x≠y:=by simpa using hxy
     go_wp2_with fail
     go_quiet (fail)
     go_wp2_with fail
     go_ret
     exact⟨Qd (by simpa using fun e=>hne (HXY.out e)),q+nq,by first|rfl|exact World.drewN_drewN _ _ _⟩
    ·have hE:=hid (of_decide_eq_true hxy)
     go_wp2_with fail
     go_quiet (fail)
     go_wp2_with fail
     go_roundw
     case rel=>exact⟨k+1,by omega,by go_num,HT.out.2 hE.out,q+nq,by first|rfl|exact World.drewN_drewN _ _ _⟩
     case measure=>simp[intOf];omega
   ·obtain rfl:k=a.length:=by omega
    have HR:=hid hrel.out
    clear hrel
    go_wp2_with fail
    go_ret
    refine⟨Qd ?_,q,rfl⟩
    have h1:=HR.out
    rw[List.take_of_length_le (Nat.le_refl _),List.take_of_length_le (by rw[HL.out];exact Nat.le_refl _)]at h1
    simp[h1]
 ·have hl':((a.length:Int) != (b.length:Int))=true:=by simp;omega
  have HL:=hid hl
  clear hl
  go_enter Tryz.func122,Tryz.ntmps122
  go_wp2_with fail
  go_ret
  refine⟨Qd ?_,0,rfl⟩
  have:a≠b:=fun e=>HL.out (by rw[e])
  simp[this]
theorem YJ (a b:List En)(va vb:Value)(w:World)(B:Nat)(ha:SlP w B 4 EnE va a)(hb:SlP w B 4 EnE vb b) :
  Calls Tryz.prog 166 #[va,vb] w fun e w'=>e=.returned (.bool (decide (a=b)))/\∃ n,w'=w.drewN n:=by
 obtain⟨A1,n1,rfl,b1,b2,b3⟩:=ha
 obtain⟨A2,n2,rfl,c1,c2,c3⟩:=hb
 unfold Big at b2 c2
 by_cases hl:a.length=b.length
 ·have hl':((a.length:Int) != (b.length:Int))=false:=by simp[hl]
  have HL:=hid hl
  clear hl
  have gg:=Xe
  have nn:=Ks
  go_enter Tryz.func166,Tryz.ntmps166
  go_wp2_with fail
  go_loopw [13] (fun i wr=>∃ k:Nat,k<=a.length/\i=.int .i64 k/\Hid (a.take k=b.take k)/\∃ n,wr=w.drewN n) (fun i _=>a.length-(intOf i).toNat)
  case atStart=>exact⟨0,Nat.zero_le _,rfl,rfl,0,rfl⟩
  case round=>
   obtain⟨k,hk,rfl,hrel,q,rfl⟩:=hrel
   by_cases hlt:k<a.length
   ·have hlt2:k<b.length:=by have:=HL.out;omega
    obtain⟨x,hx⟩:∃ x,a[k]?=some x:=⟨_,List.getElem?_eq_getElem hlt⟩
    obtain⟨y,hy⟩:∃ y,b[k]?=some y:=⟨_,List.getElem?_eq_getElem hlt2⟩
    obtain⟨ba,oa,rfl,hbA,hc⟩:=b3 (by rintro rfl;simp at hlt)
    obtain⟨bb,ob,rfl,hbB,hd⟩:=c3 (by rintro rfl;simp at hlt2)
    obtain⟨cs,⟨rfl,hok⟩,_,hu⟩:=hc k _ hx
    obtain⟨ds,⟨rfl,hok2⟩,_,hv⟩:=hd k _ hy
    have e0:w.cell? ⟨ba,oa+k*4,none⟩=some (.int .i64 x.dc):=hu 0 _ rfl
    have e1:w.cell? ⟨ba,oa+k*4+1,none⟩=some (.int .i64 x.n):=hu 1 _ rfl
    have e2:w.cell? ⟨ba,oa+k*4+2,none⟩=some (.string x.s):=hu 2 _ rfl
    have e3:w.cell? ⟨ba,oa+k*4+3,none⟩=some (.int .i64 x.v):=hu 3 _ rfl
    have g0:w.cell? ⟨bb,ob+k*4,none⟩=some (.int .i64 y.dc):=hv 0 _ rfl
    have g1:w.cell? ⟨bb,ob+k*4+1,none⟩=some (.int .i64 y.n):=hv 1 _ rfl
    have g2:w.cell? ⟨bb,ob+k*4+2,none⟩=some (.string y.s):=hv 2 _ rfl
    have g3:w.cell? ⟨bb,ob+k*4+3,none⟩=some (.int .i64 y.v):=hv 3 _ rfl
    have HT:=hid (QO hx hy hrel.out)
    have HXY:Hid (a=b->x=y):=fun e=>by subst e;rw[hx]at hy;exact Option.some.inj hy
    have hi1:((k:Int))<(a.length:Int):=by omega
    have hi2:((k:Int))<(b.length:Int):=by omega
    clear hu hv hc hd b3 c3 hx hy hok hok2
    rcases hxy:decide (x=y)
    ·have hne:x≠y:=by simpa using hxy
     go_wp2_with fail
     go_quiet (fail)
     go_wp2_with fail
     go_ret
     exact⟨Qd (by simpa using fun e=>hne (HXY.out e)),q+nq,by first|rfl|exact World.drewN_drewN _ _ _⟩
    ·have hE:=hid (of_decide_eq_true hxy)
     go_wp2_with fail
     go_quiet (fail)
     go_wp2_with fail
     go_roundw
     case rel=>exact⟨k+1,by omega,by go_num,HT.out.2 hE.out,q+nq,by first|rfl|exact World.drewN_drewN _ _ _⟩
     case measure=>simp[intOf];omega
   ·obtain rfl:k=a.length:=by omega
    have HR:=hid hrel.out
    clear hrel
    go_wp2_with fail
    go_ret
    refine⟨Qd ?_,q,rfl⟩
    have h1:=HR.out
    rw[List.take_of_length_le (Nat.le_refl _),List.take_of_length_le (by rw[HL.out];exact Nat.le_refl _)]at h1
    simp[h1]
 ·have hl':((a.length:Int) != (b.length:Int))=true:=by simp;omega
  have HL:=hid hl
  clear hl
  go_enter Tryz.func166,Tryz.ntmps166
  go_wp2_with fail
  go_ret
  refine⟨Qd ?_,0,rfl⟩
  have:a≠b:=fun e=>HL.out (by rw[e])
  simp[this]
open Classical in
noncomputable def ksEq (a b:List Kd):Bool:=decide (a=b)
theorem K9 {a b:List Kd}:ksEq a b=true↔a=b:=by simp[ksEq]
theorem Kf {a b:List Kd}:ksEq a b=false↔a≠b:=by simp[ksEq]
open Classical in
noncomputable def kdEq (a b:Kd):Bool:=decide (a=b)
theorem Va {a b:Kd}:kdEq a b=true↔a=b:=by simp[kdEq]
theorem Kg {a b:Kd}:kdEq a b=false↔a≠b:=by simp[kdEq]
def Vb (g:Nat)(l m:List Kd)(w:World):Prop:=
 (∀ args W,(callFunc g args).run Tryz.prog W=.ok (.enter g args) W) /\
 ∀ (x:Kd) (y:Kd) (xe xk ye yk:Value) (W:World),x∈l->y∈m->Below w.heap.size w W->x.2.rd W W.heap.size xe xk->y.2.rd W W.heap.size ye yk->Calls Tryz.prog g #[.agg #[.string x.1,xe,xk],.agg #[.string y.1,ye,yk]] W fun e w'=>e=.returned (.bool (kdEq x y))/\Below W.heap.size W w'
theorem XF (g:Nat)(l m:List Kd)(vl vm:Value)(w:World)(h:SlP w w.heap.size 3 (KdE w w.heap.size) vl l)(h':SlP w w.heap.size 3 (KdE w w.heap.size) vm m)(ht:Vb g l m w) :
  Calls Tryz.prog 167 #[vl,vm,.func (.func g) #[] #[]] w fun e w'=>e=.returned (.bool (ksEq l m))/\Below w.heap.size w w':=by
 obtain⟨A1,n1,rfl,b1,b2,b3⟩:=h
 obtain⟨A2,n2,rfl,c1,c2,c3⟩:=h'
 obtain⟨eg,ht⟩:=ht
 unfold Big at b2 c2
 by_cases hl:l.length=m.length
 case neg=>
  have hl':((l.length:Int) != (m.length:Int))=true:=by simp;omega
  have HL:=hid hl
  clear hl
  go_enter Tryz.func167,Tryz.ntmps167
  go_wp2_with fail
  go_ret
  exact⟨Qd (by rw[eq_comm,Kf];rintro rfl;exact HL.out rfl),Below.refl _ _⟩
 have hl':((l.length:Int) != (m.length:Int))=false:=by simp[hl]
 have HL:=hid hl
 clear hl
 go_enter Tryz.func167,Tryz.ntmps167
 go_wp2_with fail
 go_loopw [17] (fun i wr=>∃ k:Nat,k<=l.length/\i=.int .i64 k/\Hid (l.take k=m.take k)/\Below w.heap.size w wr) (fun i _=>l.length-(intOf i).toNat)
 case atStart=>exact⟨0,Nat.zero_le _,rfl,rfl,Below.refl _ _⟩
 case round=>
  obtain⟨k,hk,rfl,hrel,hb⟩:=hrel
  have hsz:=hb.size
  by_cases hlt:k<l.length
  ·have hlt2:k<m.length:=by have:=HL.out;omega
   obtain⟨⟨xk,xt⟩,hx⟩:∃ x,l[k]?=some x:=⟨_,List.getElem?_eq_getElem hlt⟩
   obtain⟨⟨yk,yt⟩,hy⟩:∃ y,m[k]?=some y:=⟨_,List.getElem?_eq_getElem hlt2⟩
   obtain⟨ba,oa,rfl,hbA,hc⟩:=b3 (by rintro rfl;simp at hlt)
   obtain⟨bb,ob,rfl,hbB,hd⟩:=c3 (by rintro rfl;simp at hlt2)
   obtain⟨cs,⟨v1,v2,rfl,_,hrs⟩,_,hu⟩:=hc k _ hx
   obtain⟨ds,⟨u1,u2,rfl,_,hrt⟩,_,hv⟩:=hd k _ hy
   simp only at hrs hrt
   have e0:wr.cell? ⟨ba,oa+k*3,none⟩=some (.string xk):=(hb.cell hbA).trans (hu 0 _ rfl)
   have e1:wr.cell? ⟨ba,oa+k*3+1,none⟩=some v1:=(hb.cell hbA).trans (hu 1 _ rfl)
   have e2:wr.cell? ⟨ba,oa+k*3+2,none⟩=some v2:=(hb.cell hbA).trans (hu 2 _ rfl)
   have g0:wr.cell? ⟨bb,ob+k*3,none⟩=some (.string yk):=(hb.cell hbB).trans (hv 0 _ rfl)
   have g1:wr.cell? ⟨bb,ob+k*3+1,none⟩=some u1:=(hb.cell hbB).trans (hv 1 _ rfl)
   have g2:wr.cell? ⟨bb,ob+k*3+2,none⟩=some u2:=(hb.cell hbB).trans (hv 2 _ rfl)
   have HT:=hid (QO hx hy hrel.out)
   have HXY:Hid (l=m->(xk,xt)=(yk,yt)):=fun e=>by rw[e]at hx;rw[hx]at hy;exact Option.some.inj hy
   have hB2:Below w.heap.size w ((wr.alloc (.cells #[.string xk,v1,v2] 106)).alloc (.cells #[.string yk,u1,u2] 106)):=(hb.alloc hsz _).alloc (by simp;omega) _
   have hcall:=ht (xk,xt) (yk,yt) v1 v2 u1 u2 _ (List.mem_of_getElem? hx) (List.mem_of_getElem? hy) hB2 (Qg hB2 hB2.size _ _ _ hrs) (Qg hB2 hB2.size _ _ _ hrt)
   have HB2:=hid hB2
   obtain⟨A3,n3,A4,n4,rfl,rfl⟩:=Qk hrs
   obtain⟨A5,n5,A6,n6,rfl,rfl⟩:=Qk hrt
   have h1:ba<wr.heap.size:=by omega
   have h2:bb<wr.heap.size:=by omega
   have h3:bb≠wr.heap.size:=by omega
   have hi2:((k:Int))<(m.length:Int):=by omega
   clear hu hv hc hd b3 c3 hx hy hrs hrt ht hB2
   cases hq:kdEq (xk,xt) (yk,yt)
   ·rw[hq]at hcall
    have HQ:=hid (Kg.1 hq)
    clear hq
    go_wp2_with (go_at_fn g;refine hcall.mono ?_;rintro e w1 ⟨rfl,hb1⟩)
    go_ret
    exact⟨Qd (by rw[eq_comm,Kf];exact fun e=>HQ.out (HXY.out e)),HB2.out.trans (hb1.mono HB2.out.size)⟩
   ·rw[hq]at hcall
    have HQ:=hid (Va.1 hq)
    clear hq
    go_wp2_with (go_at_fn g;refine hcall.mono ?_;rintro e w1 ⟨rfl,hb1⟩)
    go_roundw
    case rel=>exact⟨k+1,by omega,by go_num,HT.out.2 HQ.out,HB2.out.trans (hb1.mono HB2.out.size)⟩
    case measure=>simp[intOf];omega
  ·obtain rfl:k=l.length:=by omega
   have HK:Hid (l=m):=by
    have h1:=hrel.out
    rw[List.take_of_length_le (Nat.le_refl _),List.take_of_length_le (by rw[HL.out];exact Nat.le_refl _)]at h1
    exact h1
   go_wp2_with fail
   go_ret
   exact⟨Qd (by rw[eq_comm,K9];exact HK.out),hb⟩
theorem JL (x y:Kd)(xe xk ye yk:Value)(W:World)(hx:x.2.rd W W.heap.size xe xk)(hy:y.2.rd W W.heap.size ye yk)
  (hc:∀ W',Below W.heap.size W W'->Calls Tryz.prog 120 #[.agg #[xe,xk],.agg #[ye,yk]] W' fun e w'=>e=.returned (.bool (trEq x.2 y.2))/\Below W'.heap.size W' w') :
  Calls Tryz.prog 168 #[.agg #[.string x.1,xe,xk],.agg #[.string y.1,ye,yk]] W fun e w'=>e=.returned (.bool (kdEq x y))/\Below W.heap.size W w':=by
 obtain⟨xn,xt⟩:=x
 obtain⟨yn,yt⟩:=y
 simp only at hx hy hc
 obtain⟨A3,n3,A4,n4,rfl,rfl⟩:=Qk hx
 obtain⟨A5,n5,A6,n6,rfl,rfl⟩:=Qk hy
 have hB:Below W.heap.size W ((W.alloc (.cells #[.string xn,.slice A3 xt.es.length n3,.slice A4 xt.ks.length n4] 106)).alloc (.cells #[.string yn,.slice A5 yt.es.length n5,.slice A6 yt.ks.length n6] 106)):=((Below.refl _ W).alloc (Nat.le_refl _) _).alloc (by simp) _
 have hcall:=hc _ hB
 have HB:=hid hB
 clear hx hy hB hc
 rcases hxy:(xn.toList==yn.toList)
 ·have hne:xn≠yn:=fun e=>by rw[e]at hxy;simp at hxy
  go_enter Tryz.func168,Tryz.ntmps168
  go_wp2_with fail
  go_ret
  exact⟨Qd (by rw[eq_comm,Kg];intro e;cases e;exact hne rfl),HB.out⟩
 ·have hE:=hid ((QR xn yn).1 (by simpa using hxy))
  cases hst:trEq xt yt
  ·have hne:=Zt.1 hst
   rw[hst]at hcall
   clear hst
   go_enter Tryz.func168,Tryz.ntmps168
   go_wp2_with (go_at_call 120;refine hcall.mono ?_;rintro e w1 ⟨rfl,hb1⟩)
   go_ret
   exact⟨Qd (by rw[eq_comm,Kg];intro e;cases e;exact hne rfl),HB.out.trans (hb1.mono HB.out.size)⟩
  ·have HT:=hid (Yp.1 hst)
   rw[hst]at hcall
   clear hst
   go_enter Tryz.func168,Tryz.ntmps168
   go_wp2_with (go_at_call 120;refine hcall.mono ?_;rintro e w1 ⟨rfl,hb1⟩)
   go_ret
   exact⟨Qd (by rw[eq_comm,Va,hE.out,HT.out]),HB.out.trans (hb1.mono HB.out.size)⟩
theorem qZi (s:Tr):∀ (t:Tr) (w:World) (ve vk ue uk:Value),s.rd w w.heap.size ve vk->t.rd w w.heap.size ue uk ->
  Calls Tryz.prog 120 #[.agg #[ve,vk],.agg #[ue,uk]] w fun e w'=>e=.returned (.bool (trEq s t))/\Below w.heap.size w w':=by
 induction s using Tr.ind with
 |h es ks ih=>
 rintro⟨es',ks'⟩ w ve vk ue uk h h'
 have h0:=h
 have h0':=h'
 rw[QH]at h h'
 obtain⟨hes,hks⟩:=h
 obtain⟨hes',hks'⟩:=h'
 obtain⟨A3,n3,A4,n4,rfl,rfl⟩:=Qk h0
 obtain⟨A5,n5,A6,n6,rfl,rfl⟩:=Qk h0'
 simp only[Tr.es,Tr.ks]at hes hks hes' hks' ⊢
 have HK:Hid (∀ w',Below w.heap.size w w'->SlP w' w'.heap.size 3 (KdE w' w'.heap.size) (.slice A4 ks.length n4) ks):=fun w' hb=>(QH.1 (Qg hb hb.size _ _ _ h0)).2
 have HK':Hid (∀ w',Below w.heap.size w w'->SlP w' w'.heap.size 3 (KdE w' w'.heap.size) (.slice A6 ks'.length n6) ks'):=fun w' hb=>(QH.1 (Qg hb hb.size _ _ _ h0')).2
 have hB0:Below w.heap.size w ((w.alloc (.cells #[.slice A3 es.length n3,.slice A4 ks.length n4] 25)).alloc (.cells #[.slice A5 es'.length n5,.slice A6 ks'.length n6] 25)):=((Below.refl _ w).alloc (Nat.le_refl _) _).alloc (by simp) _
 have HB0:=hid hB0
 have HE:=hid (hes.imp hB0 hB0.size fun _ _ _ h=>h)
 have HE':=hid (hes'.imp hB0 hB0.size fun _ _ _ h=>h)
 have HT:Hid (∀ w',Vb 168 ks ks' w'):=fun w'=>⟨enters_of Tryz.func168 (by kernel_rfl) rfl,fun x y xe xk ye yk W hx _ _ hrx hry=>
  JL x y xe xk ye yk W hrx hry fun W' hb=>ih x.1 x.2 hx y.2 W' xe xk ye yk (Qg hb hb.size _ _ _ hrx) (Qg hb hb.size _ _ _ hry)⟩
 clear hes hks hes' hks' h0 h0' hB0 ih
 by_cases he:es=es'
 ·have hd:decide (es=es')=true:=by simpa using he
  have HD:=hid hd
  have HEQ:=hid he
  clear he hd
  cases hk:ksEq ks ks'
  ·have HKN:=hid (Kf.1 hk)
   have HKV:=hid hk
   clear hk
   go_enter Tryz.func120,Tryz.ntmps120
   go_wp2_with fail
   refine (YJ es es' _ _ _ _ HE.out HE'.out).mono ?_
   rw[HD.out]
   rintro e w1 ⟨rfl,q,rfl⟩
   go_wp2_with fail
   refine (XF 168 ks ks' _ _ _ (HK.out _ (below_drewN HB0.out q)) (HK'.out _ (below_drewN HB0.out q)) (HT.out _)).mono ?_
   rw[HKV.out]
   rintro e w2 ⟨rfl,hb2⟩
   go_wp2_with fail
   go_ret
   exact⟨Qd (by rw[eq_comm,Zt];intro e;cases e;exact HKN.out rfl),(below_drewN HB0.out q).trans (hb2.mono (below_drewN HB0.out q).size)⟩
  ·have HKN:=hid (K9.1 hk)
   have HKV:=hid hk
   clear hk
   go_enter Tryz.func120,Tryz.ntmps120
   go_wp2_with fail
   refine (YJ es es' _ _ _ _ HE.out HE'.out).mono ?_
   rw[HD.out]
   rintro e w1 ⟨rfl,q,rfl⟩
   go_wp2_with fail
   refine (XF 168 ks ks' _ _ _ (HK.out _ (below_drewN HB0.out q)) (HK'.out _ (below_drewN HB0.out q)) (HT.out _)).mono ?_
   rw[HKV.out]
   rintro e w2 ⟨rfl,hb2⟩
   go_wp2_with fail
   go_ret
   exact⟨Qd (by rw[eq_comm,Yp,HEQ.out,HKN.out]),(below_drewN HB0.out q).trans (hb2.mono (below_drewN HB0.out q).size)⟩
 ·have hd:decide (es=es')=false:=by simpa using he
  have HD:=hid hd
  have HEQ:=hid he
  clear he hd
  go_enter Tryz.func120,Tryz.ntmps120
  go_wp2_with fail
  refine (YJ es es' _ _ _ _ HE.out HE'.out).mono ?_
  rw[HD.out]
  rintro e w1 ⟨rfl,q,rfl⟩
  go_wp2_with fail
  go_ret
  exact⟨Qd (by rw[eq_comm,Zt];intro e;cases e;exact HEQ.out rfl),below_drewN HB0.out q⟩
noncomputable def tSame (s t:Tr):Bool:=s.right 5&&(t.right 5&&trEq s t)
theorem tSame_any (s t:Tr)(w:World)(ve vk ue uk:Value)(h:s.rd w w.heap.size ve vk)(h':t.rd w w.heap.size ue uk) :
  Calls Tryz.prog 70 #[.agg #[ve,vk],.agg #[ue,uk]] w fun e w'=>e=.returned (.bool (tSame s t))/\Below w.heap.size w w':=by
 have HS:Hid (∀ w',Below w.heap.size w w'->s.rd w' w'.heap.size ve vk):=fun w' hb=>Qg hb hb.size _ _ _ h
 have HT:Hid (∀ w',Below w.heap.size w w'->t.rd w' w'.heap.size ue uk):=fun w' hb=>Qg hb hb.size _ _ _ h'
 obtain⟨A3,n3,A4,n4,rfl,rfl⟩:=Qk h
 obtain⟨A5,n5,A6,n6,rfl,rfl⟩:=Qk h'
 have HX:Hid (∀ W,Below (w.heap.size+2) ((w.alloc (.cells #[.slice A3 s.es.length n3,.slice A4 s.ks.length n4] 25)).alloc (.cells #[.slice A5 t.es.length n5,.slice A6 t.ks.length n6] 25)) W->Below w.heap.size w W/\w.heap.size+2<=W.heap.size/\W.cell? ⟨w.heap.size,0,none⟩=some (.slice A3 s.es.length n3)/\W.cell? ⟨w.heap.size,1,none⟩=some (.slice A4 s.ks.length n4)/\W.cell? ⟨w.heap.size+1,0,none⟩=some (.slice A5 t.es.length n5)/\W.cell? ⟨w.heap.size+1,1,none⟩=some (.slice A6 t.ks.length n6)):=fun W hW=>by
  have g0:W.heap[w.heap.size]?=some (.cells #[.slice A3 s.es.length n3,.slice A4 s.ks.length n4] 25 (0,0)):=(hW.block _ (by omega)).trans ((Qi (by simp)).trans (Qh rfl))
  have g1:W.heap[w.heap.size+1]?=some (.cells #[.slice A5 t.es.length n5,.slice A6 t.ks.length n6] 25 (0,0)):=(hW.block _ (by omega)).trans (Qh (by simp))
  exact⟨(((Below.refl _ w).alloc (Nat.le_refl _) _).alloc (by simp) _).trans (hW.mono (by omega)),by have:=hW.size;simpa using this,Qa (i:=0) g0,Qa (i:=1) g0,Qa (i:=0) g1,Qa (i:=1) g1⟩
 clear h h'
 have h0:=(HX.out _ (Below.refl _ _)).1
 cases hs:s.right 5
 ·have HR:Hid (tSame s t=false):=by unfold Hid tSame;rw[hs];rfl
  have H1:=hid hs
  clear hs
  go_enter Tryz.func70,Tryz.ntmps70
  go_wp2_with fail
  refine (QW s _ _ _ (HS.out _ h0)).mono ?_
  rw[H1.out]
  rintro e w1 ⟨rfl,hb1⟩
  go_wp2_with fail
  go_ret
  exact⟨Qd HR.out.symm,h0.trans (hb1.mono h0.size)⟩
 cases ht:t.right 5
 ·have HR:Hid (tSame s t=false):=by unfold Hid tSame;rw[ht];simp
  have H1:=hid hs
  have H2:=hid ht
  clear hs ht
  go_enter Tryz.func70,Tryz.ntmps70
  go_wp2_with fail
  refine (QW s _ _ _ (HS.out _ h0)).mono ?_
  rw[H1.out]
  rintro e w1 ⟨rfl,hb1⟩
  have hbk1:=hid (hb1.mono (show w.heap.size+2<=_ by simp))
  clear hb1
  obtain⟨hB1,hs1,q0,q1,q2,q3⟩:=HX.out _ hbk1.out
  go_wp2_with fail
  refine (QW t _ _ _ (HT.out _ hB1)).mono ?_
  rw[H2.out]
  rintro e w2 ⟨rfl,hb2⟩
  go_wp2_with fail
  go_ret
  exact⟨Qd HR.out.symm,hB1.trans (hb2.mono (by omega))⟩
 ·have HR:Hid (tSame s t=trEq s t):=by unfold Hid tSame;rw[hs,ht];rfl
  have H1:=hid hs
  have H2:=hid ht
  clear hs ht
  go_enter Tryz.func70,Tryz.ntmps70
  go_wp2_with fail
  refine (QW s _ _ _ (HS.out _ h0)).mono ?_
  rw[H1.out]
  rintro e w1 ⟨rfl,hb1⟩
  have hbk1:=hid (hb1.mono (show w.heap.size+2<=_ by simp))
  clear hb1
  obtain⟨hB1,hs1,q0,q1,q2,q3⟩:=HX.out _ hbk1.out
  go_wp2_with fail
  refine (QW t _ _ _ (HT.out _ hB1)).mono ?_
  rw[H2.out]
  rintro e w2 ⟨rfl,hb2⟩
  have hbk2:=hid (hbk1.out.trans (hb2.mono hs1))
  clear hb2 q0 q1 q2 q3 hB1
  obtain⟨hB2,hs2,q0,q1,q2,q3⟩:=HX.out _ hbk2.out
  go_wp2_with fail
  refine (qZi s t _ _ _ _ _ (HS.out _ hB2) (HT.out _ hB2)).mono ?_
  rintro e w3 ⟨rfl,hb3⟩
  go_wp2_with fail
  go_ret
  exact⟨Qd HR.out.symm,hB2.trans (hb3.mono (by omega))⟩
end Go.Proofs.YtidebdbjekijkaaGreat
namespace Go.Proofs.YtidebdbjekijkaaGreat
open Go.RowKit Go.Sort
def toBy (s:ByteArray):List UInt8:=s.data.toList
def ofBy (l:List UInt8):ByteArray:=⟨l.toArray⟩
theorem qQc (s:ByteArray):ofBy (toBy s)=s:=rfl
theorem Ji (l:List UInt8):toBy (ofBy l)=l:=rfl
theorem qQd (ds:List (List UInt8)):(ds.map ofBy).map toBy=ds:=by
 rw[List.map_map]
 conv=>rhs;rw[←List.map_id ds]
 rfl
def srtL (ds:List ByteArray):List ByteArray:=((ds.map toBy).mergeSort fun x y=>decide (x<=y)).map ofBy
def cmpL (ds:List ByteArray):List ByteArray:=(Lib.compact (ds.map toBy)).map ofBy
theorem KG {α:Type}(f:α->Value)(l:List α):(l.map fun x=>[f x]).flatten=l.map f:=by
 induction l with
 |nil=>rfl
 |cons x l ih=>simp[ih]
theorem KH {w:World}{base:Nat}{e:TypeId}{v:Value}{ds:List ByteArray}(h:OwnP w base e 1 StE v ds):(v=.slice none 0 0/\ds=[]) ∨
  ∃ b cap cur,v=.slice (some ⟨b,0,none⟩) ds.length cap/\base<=b/\w.heap[b]?=some (.cells cur e (0,0))/\ds.length<=cap/\cap<=maxLen/\cur.size=cap*1/\cur.toList.take (ds.map toBy).length=(ds.map toBy).map encStr/\∀ x∈ds,x.size<=Big:=by
 obtain⟨css,h1,h2,h3⟩:=h
 rcases h3 with⟨rfl,hn⟩|⟨b,cap,cur,rfl,hb,hg,hnc,hm,hcs,ht⟩
 ·exact .inl ⟨rfl,List.eq_nil_of_length_eq_zero hn⟩
 ·refine .inr ⟨b,cap,cur,rfl,hb,hg,hnc,hm,hcs,?_,fun x hx=>?_⟩
  ·have hcss:css=ds.map fun x=>[Value.string x]:=by
    apply List.ext_getElem?
    intro j
    by_cases hj:j<ds.length
    ·obtain⟨cs,hcs,⟨hcv,_⟩,_⟩:=h1.2 j ds[j] (List.getElem?_eq_getElem hj)
     rw[hcs,List.getElem?_map,List.getElem?_eq_getElem hj,hcv];rfl
    ·rw[List.getElem?_eq_none (by rw[h1.1];omega),List.getElem?_eq_none (by simp;omega)]
   rw[Nat.mul_one,hcss,KG]at ht
   rw[List.length_map,ht,List.map_map]
   rfl
  ·obtain⟨j,hj⟩:=List.getElem?_of_mem hx
   obtain⟨cs,_,⟨_,hr⟩,_⟩:=h1.2 j x hj
   exact hr
theorem qYc {w:World}{base:Nat}{e:TypeId}{v:Value}{ts:List (List UInt8)}(h:w.ownsRow base e 1 v ts.length (ts.map encStr))(hs:∀ x∈ts,(ofBy x).size<=Big):OwnP w base e 1 StE v (ts.map ofBy):=by
 refine⟨ts.map fun l=>[encStr l],⟨by simp,fun j x hx=>?_⟩,?_⟩
 ·rw[List.getElem?_map]at hx
  obtain⟨y,hy,rfl⟩:=Option.map_eq_some_iff.1 hx
  exact⟨[encStr y],by rw[List.getElem?_map,hy];rfl,⟨rfl,hs y (List.mem_of_getElem? hy)⟩,rfl⟩
 ·rw[KG,List.length_map];exact h
theorem J4 (ds:List ByteArray)(v:Value)(w:World)(base:Nat)(h:OwnP w base 9 1 StE v ds)(hl:ds.length<=900000)(hbase:base<=w.heap.size) :
  Calls Tryz.prog 142 #[v] w fun e w'=>e=.returned (.tuple #[])/\OwnP w' base 9 1 StE v (srtL ds)/\Below base w w':=by
 rcases KH h with⟨rfl,rfl⟩|⟨b,cap,cur,rfl,hb,hg,hnc,hm,hcs,ht,hz⟩
 ·refine (Any.slices_Sort_string_none Tryz.sortStr none 0 w).mono ?_
  rintro e w' ⟨rfl,rfl⟩
  exact⟨rfl,by simpa[srtL] using OwnP.nil,Below.refl _ _⟩
 ·have hlt:b<w.heap.size:=(Array.getElem?_eq_some_iff.1 hg).1
  have hH:Holds encStr w b 0 (ds.map toBy).toArray:=holds_of_block hg ht
  have hcon:=Any.slices_Sort_string Tryz.sortStr b 0 cap (ds.map toBy) w hH hlt (by rw[List.length_map];omega)
  rw[List.length_map]at hcon
  refine Calls.mono hcon ?_
  rintro e w' ⟨rfl,n,os,rfl⟩
  have hp:((ds.map toBy).mergeSort fun x y=>decide (x<=y)).Perm (ds.map toBy):=List.mergeSort_perm _ _
  have hrow:=ownsRow_sorted (n:=n) (os:=os) (ss:=ds.map toBy) (ts:=(ds.map toBy).mergeSort fun x y=>decide (x<=y)) hp.length_eq hb hg (by rw[List.length_map];exact hnc) hm hcs
  rw[←hp.length_eq]at hrow
  refine⟨rfl,?_,(Below.refl base w).grown (grownBy_sorted _) hbase (fun g hg=>by cases hg;exact hb)⟩
  have hlen:((ds.map toBy).mergeSort fun x y=>decide (x<=y)).length=ds.length:=by rw[hp.length_eq,List.length_map]
  have:=qYc hrow (fun x hx=>by
   obtain⟨y,hy,rfl⟩:=List.mem_map.1 (hp.subset hx)
   exact hz y hy)
  rw[hlen]at this
  exact this
theorem Xb (ds:List ByteArray)(v:Value)(w:World)(base:Nat)(h:OwnP w base 9 1 StE v ds)(hl:ds.length<=900000)(hbase:base<=w.heap.size) :
  Calls Tryz.prog 143 #[v] w fun e w'=>∃ v',e=.returned v'/\OwnP w' base 9 1 StE v' (cmpL ds)/\Below base w w':=by
 rcases KH h with⟨rfl,rfl⟩|⟨b,cap,cur,rfl,hb,hg,hnc,hm,hcs,ht,hz⟩
 ·refine (Any.slices_Compact_string_empty Tryz.compactStr none 0 w).mono ?_
  rintro e w' ⟨rfl,rfl⟩
  exact⟨_,rfl,by simpa[cmpL,Lib.compact,Lib.compactUpTo] using OwnP.nil,Below.refl _ _⟩
 ·have hlt:b<w.heap.size:=(Array.getElem?_eq_some_iff.1 hg).1
  have hH:Holds encStr w b 0 (ds.map toBy).toArray:=holds_of_block hg ht
  have hcon:=Any.slices_Compact_string Tryz.compactStr b 0 cap (ds.map toBy) w hH (by rw[List.length_map];omega) (by rw[List.length_map];exact hnc)
  rw[List.length_map]at hcon
  refine Calls.mono hcon ?_
  rintro e w' ⟨rfl,n,rfl⟩
  have hcl:=Lib.compact_length_le (ds.map toBy)
  rw[List.length_map]at hcl
  have hm2:∀ x∈Lib.compact (ds.map toBy),x∈ds.map toBy:=fun x hx=>by
   unfold Lib.compact Lib.compactUpTo at hx
   obtain⟨j,hj,rfl⟩:=List.mem_map.1 hx
   have hj':j<(ds.map toBy).length:=List.mem_range.1 (List.mem_filter.1 hj).1
   rw[getElem!_pos _ j (by simpa using hj')]
   simpa using List.getElem_mem hj'
  have hcm:cmpL ds=(Lib.compact (ds.map toBy)).map ofBy:=rfl
  rw[hcm]
  generalize Lib.compact (ds.map toBy)=ts at hcl hm2 ⊢
  refine⟨_,rfl,?_,?_⟩
  ·have hF:(ts++List.replicate (ds.length-ts.length) []).length=ds.length:=by simp;omega
   have htk:=take_putCells cur (ts++List.replicate (ds.length-ts.length) []) (by rw[hF,hcs];omega)
   have hheap:(putRow encStr (Sort.ahead w n) b 0 (ts++List.replicate (ds.length-ts.length) []).toArray).heap[b]?=some (.cells (putCells encStr 0 (ts++List.replicate (ds.length-ts.length) []).toArray cur) 9 (0,0)):=by
    simp[putRow,mapBlock,Sort.ahead,Array.getElem?_modify,hg,onCells]
   refine qYc (v:=.slice (some ⟨b,0,none⟩) ts.length cap) ⟨by simp,.inr ⟨b,cap,_,rfl,hb,hheap,by omega,hm,by simp[putCells,hcs],?_⟩⟩ (fun x hx=>by
    obtain⟨y,hy,rfl⟩:=List.mem_map.1 (hm2 x hx)
    exact hz y hy)
   have:=congrArg (List.take ts.length) htk
   rw[List.take_take,hF,Nat.min_eq_left hcl,←List.map_take,List.take_left]at this
   rw[Nat.mul_one];exact this
  ·refine (Below.refl base w).grown (w':=putRow encStr (Sort.ahead w n) b 0 (ts++List.replicate (ds.length-ts.length) []).toArray) (row:=some b) ⟨rfl,rfl,rfl,by simp,fun k hk hne=>?_⟩ hbase (fun g hg=>by cases hg;exact hb)
   have:b≠k:=fun e=>hne (by rw[e])
   simp[putRow,mapBlock,Sort.ahead,Array.getElem?_modify,this]
end Go.Proofs.YtidebdbjekijkaaGreat
namespace Go.Proofs.YtidebdbjekijkaaGreat
open Go.RowKit
theorem KI (l:List ByteArray):(srtL l).length=l.length:=by unfold srtL;rw[List.length_map,(List.mergeSort_perm _ _).length_eq,List.length_map]
def okT:Option ByteArray->ByteArray->Bool
 |none,_=>true
 |some q,x=>ltS q x
def pickC (last b:Option ByteArray)(x:ByteArray):Bool:=okT last x&&(match b with|none=>true|some c=>ltS x c)
def pickS (last b:Option ByteArray)(x:ByteArray):Option ByteArray:=if pickC last b x then some x else b
def sdGo (l:List ByteArray):Nat->List ByteArray->List ByteArray
 |0,out=>out
 |n+1,out=>match l.foldl (pickS out.getLast?) none with|none=>out|some b=>sdGo l n (out++[b])
def sdL (l:List ByteArray):List ByteArray:=sdGo l (l.length+1) []
def ahT (l:List ByteArray)(last:Option ByteArray):Nat:=(l.filter fun x=>okT last x).length
theorem KO (l:List ByteArray)(last:Option ByteArray):∀ (b:Option ByteArray),(∀ e,b=some e->okT last e=true)->∀ e,l.foldl (pickS last) b=some e->(b=some e∨e∈l)/\okT last e=true:=by
 induction l with
 |nil=>intro b hb e he;exact⟨.inl he,hb e he⟩
 |cons x l ih=>
  intro b hb e he
  rw[List.foldl_cons]at he
  by_cases hc:pickC last b x=true
  ·have e1:pickS last b x=some x:=by simp[pickS,hc]
   rw[e1]at he
   simp only[pickC,Bool.and_eq_true]at hc
   obtain⟨h1,h2⟩:=ih (some x) (fun e he=>by cases he;exact hc.1) e he
   refine⟨.inr ?_,h2⟩
   rcases h1 with h1|h1
   ·cases h1;simp
   ·exact List.mem_cons_of_mem _ h1
  ·have e1:pickS last b x=b:=by simp[pickS,hc]
   rw[e1]at he
   obtain⟨h1,h2⟩:=ih b hb e he
   refine⟨?_,h2⟩
   rcases h1 with h1|h1
   ·exact .inl h1
   ·exact .inr (List.mem_cons_of_mem _ h1)
theorem KP (l:List ByteArray)(last:Option ByteArray):∀ (b:Option ByteArray),(∀ c,b=some c->∃ e,l.foldl (pickS last) b=some e/\ltS c e=false)/\∀ x∈l,okT last x=true->∃ e,l.foldl (pickS last) b=some e/\ltS x e=false:=by
 induction l with
 |nil=>intro b;exact⟨fun c h=>⟨c,h,Qz _⟩,fun _ h=>by cases h⟩
 |cons y l ih=>
  intro b
  rw[List.foldl_cons]
  obtain⟨i1,i2⟩:=ih (pickS last b y)
  refine⟨fun c hc=>?_,fun x hx h2=>?_⟩
  ·subst hc
   by_cases hs:pickC last (some c) y=true
   ·obtain⟨e,he,hle⟩:=i1 y (by simp[pickS,hs])
    refine⟨e,he,?_⟩
    simp only[pickC,Bool.and_eq_true]at hs
    cases hce:ltS c e
    ·rfl
    ·rw[QI hs.2 hce]at hle;cases hle
   ·exact i1 c (by simp[pickS,hs])
  ·rcases List.mem_cons.1 hx with rfl|hx
   ·cases b with
    |none=>
     have hs:pickC last none x=true:=by simp[pickC,h2]
     exact i1 x (by simp[pickS,hs])
    |some c=>
     by_cases hs:pickC last (some c) x=true
     ·exact i1 x (by simp[pickS,hs])
     ·obtain⟨e,he,hle⟩:=i1 c (by simp[pickS,hs])
      refine⟨e,he,?_⟩
      have hxc:ltS x c=false:=by
       cases hxc:ltS x c
       ·rfl
       ·exact absurd (by simp[pickC,h2,hxc]) hs
      cases hxe:ltS x e
      ·rfl
      ·cases hec:ltS e c
       ·have:=ZZ hec hle;rw[this]at hxe;rw[hxe]at hxc;cases hxc
       ·rw[QI hxe hec]at hxc;cases hxc
   ·exact i2 x hx h2
theorem qQp {last:Option ByteArray}{a b:ByteArray}(h:okT last a=true)(k:ltS a b=true):okT last b=true:=by
 cases last with
 |none=>rfl
 |some q=>exact QI h k
theorem qJe {l:List ByteArray}{last:Option ByteArray}{e:ByteArray}(h:l.foldl (pickS last) none=some e):ahT l (some e)<ahT l last:=by
 obtain⟨h1,h2⟩:=KO l last none (fun _ h=>by cases h) e h
 rcases h1 with h1|h1
 ·cases h1
 ·exact Z0 h1 (fun y hy=>qQp h2 hy) h2 (Qz _)
theorem qJf (l:List ByteArray)(last:Option ByteArray):ahT l last<=l.length:=List.length_filter_le _ _
theorem Jx (l:List ByteArray):∀ (n:Nat) (out:List ByteArray),ahT l out.getLast? < n->(out.Pairwise fun a b=>ltS a b=true)->(∀ e∈out,e∈l)->(∀ x∈l,okT out.getLast? x=false->x∈out) ->
  ((sdGo l n out).Pairwise fun a b=>ltS a b=true)/\(∀ e∈sdGo l n out,e∈l)/\∀ x∈l,x∈sdGo l n out
 |0,_,h,_,_,_=>absurd h (Nat.not_lt_zero _)
 |n+1,out,h,h1,h2,h3=>by
  rw[sdGo]
  cases hb:l.foldl (pickS out.getLast?) none with
  |none=>
   refine⟨h1,h2,fun x hx=>?_⟩
   cases ho:okT out.getLast? x
   ·exact h3 x hx ho
   ·obtain⟨e,he,_⟩:=(KP l out.getLast? none).2 x hx ho
    rw[hb]at he;cases he
  |some e=>
   obtain⟨hm,hok⟩:=KO l out.getLast? none (fun _ h=>by cases h) e hb
   have hel:e∈l:=by
    rcases hm with hm|hm
    ·cases hm
    ·exact hm
   have hle:(out++[e]).getLast?=some e:=by simp
   refine Jx l n (out++[e]) ?_ ?_ ?_ ?_
   ·rw[hle];have:=qJe hb;omega
   ·rw[List.pairwise_append]
    refine⟨h1,List.pairwise_singleton _ _,fun a ha b hb'=>?_⟩
    rw[List.mem_singleton]at hb';subst hb'
    rcases List.eq_nil_or_concat out with rfl|⟨out',z,rfl⟩
    ·cases ha
    ·rw[List.concat_eq_append]at *
     rw[List.getLast?_append]at hok
     have hz:ltS z b=true:=hok
     rcases List.mem_append.1 ha with ha|ha
     ·exact QI ((List.pairwise_append.1 h1).2.2 a ha z (by simp)) hz
     ·rw[List.mem_singleton]at ha;subst ha;exact hz
   ·intro a ha
    rcases List.mem_append.1 ha with ha|ha
    ·exact h2 a ha
    ·rw[List.mem_singleton]at ha;subst ha;exact hel
   ·intro x hx ho
    rw[hle]at ho
    have ho:ltS e x=false:=ho
    cases ho':okT out.getLast? x
    ·exact List.mem_append_left _ (h3 x hx ho')
    ·obtain⟨e',he',hmn⟩:=(KP l out.getLast? none).2 x hx ho'
     rw[hb]at he';cases he'
     rw[ZZ ho hmn];simp
theorem KQ (l:List ByteArray):((sdL l).Pairwise fun a b=>ltS a b=true)/\∀ x,x∈sdL l↔x∈l:=by
 obtain⟨h1,h2,h3⟩:=Jx l (l.length+1) [] (by have:=qJf l ([]:List ByteArray).getLast?;omega) .nil (fun _ h=>by cases h) (fun x _ h=>by simp[okT]at h)
 exact⟨h1,fun x=>⟨h2 x,h3 x⟩⟩
theorem qJg (a b:ByteArray):ltS a b=decide (toBy a<toBy b):=by
 unfold ltS toBy
 rw[bytesLess_eq,ByteArray.toList_eq,ByteArray.toList_eq]
theorem Y9 {zs:List (List UInt8)}(x:List UInt8):x∈Lib.compact zs↔x∈zs:=by
 unfold Lib.compact Lib.compactUpTo
 rw[List.mem_map]
 constructor
 ·rintro⟨j,hj,rfl⟩
  have hj':j<zs.length:=List.mem_range.1 (List.mem_filter.1 hj).1
  rw[getElem!_pos _ j (by simpa using hj')]
  simp
 ·intro hx
  obtain⟨i,hi,rfl⟩:=List.getElem_of_mem hx
  have key:∀ i (hi:i<zs.length),∃ j,j∈(List.range zs.length).filter (Lib.keeps zs.toArray)/\zs.toArray[j]! = zs[i]:=by
   intro i
   induction i using Nat.strongRecOn with
   |ind i ih=>
    intro hi
    have hg:zs.toArray[i]! = zs[i]:=by rw[getElem!_pos _ i (by simpa using hi)];simp
    by_cases hk:Lib.keeps zs.toArray i=true
    ·exact⟨i,List.mem_filter.2 ⟨List.mem_range.2 hi,hk⟩,hg⟩
    ·unfold Lib.keeps at hk
     simp only[decide_eq_true_eq,not_or,ne_eq,Decidable.not_not]at hk
     obtain⟨j,hj,he⟩:=ih (i-1) (by omega) (by omega)
     refine⟨j,hj,?_⟩
     rw[he,←hg,hk.2,getElem!_pos _ (i-1) (by simp;omega)];simp
  obtain⟨j,hj,he⟩:=key i hi
  exact⟨j,hj,he⟩
theorem Xc {zs:List (List UInt8)}(h:zs.Pairwise fun a b=>a<=b):(Lib.compact zs).Pairwise fun a b=>a<b:=by
 unfold Lib.compact Lib.compactUpTo
 rw[List.pairwise_map,List.pairwise_filter]
 have hr:=List.pairwise_lt_range (n:=zs.length)
 refine hr.imp_of_mem fun {i j} hi hj hij _ hk=>?_
 have hi':=List.mem_range.1 hi
 have hj':=List.mem_range.1 hj
 rw[List.pairwise_iff_getElem]at h
 unfold Lib.keeps at hk
 simp only[decide_eq_true_eq,ne_eq]at hk
 have hne:zs.toArray[j]!≠zs.toArray[j-1]!:=by
  rcases hk with hk|hk
  ·omega
  ·exact hk
 rw[getElem!_pos _ j (by simpa using hj'),getElem!_pos _ (j-1) (by simp;omega)]at hne
 rw[getElem!_pos _ i (by simpa using hi'),getElem!_pos _ j (by simpa using hj')]
 simp only[List.getElem_toArray]at hne ⊢
 have h1:zs[j-1]'(by omega)<=zs[j]:=h (j-1) j (by omega) hj' (by omega)
 have h2:zs[i]<=zs[j-1]'(by omega):=by
  by_cases he:i=j-1
  ·subst he;exact List.le_refl _
  ·exact h i (j-1) hi' (by omega) (by omega)
 have h3:zs[j-1]'(by omega)<zs[j]:=by
  rcases Decidable.em (zs[j-1]'(by omega)<zs[j]) with h4|h4
  ·exact h4
  ·exact absurd (List.le_antisymm (List.not_lt.1 h4) h1) hne
 rcases Decidable.em (zs[i]<zs[j]) with h4|h4
 ·exact h4
 ·exact absurd h3 (List.not_lt.2 (List.le_trans (List.not_lt.1 h4) h2))
theorem sd_eq (l:List ByteArray):cmpL (srtL l)=sdL l:=by
 obtain⟨h1,h2⟩:=KQ l
 have hp:((l.map toBy).mergeSort fun x y=>decide (x<=y)).Perm (l.map toBy):=List.mergeSort_perm _ _
 have hs:((l.map toBy).mergeSort fun x y=>decide (x<=y)).Pairwise fun a b=>a<=b:=by
  have:=List.pairwise_mergeSort (le:=fun x y:List UInt8=>decide (x<=y)) (fun a b c h k=>by simp only[decide_eq_true_eq]at *;exact List.le_trans h k) (fun a b=>by
   simp only[Bool.or_eq_true,decide_eq_true_eq];exact List.le_total a b) (l.map toBy)
  exact this.imp fun h=>by simpa using h
 have hc:cmpL (srtL l)=(Lib.compact ((l.map toBy).mergeSort fun x y=>decide (x<=y))).map ofBy:=by
  unfold cmpL srtL;rw[qQd]
 rw[hc]
 refine ZD (r:=ltS) Qz (fun _ _ _=>QI) ?_ h1 fun x=>?_
 ·rw[List.pairwise_map]
  exact (Xc hs).imp fun h=>by rw[qJg,Ji,Ji];simpa using h
 ·rw[h2,List.mem_map]
  constructor
  ·rintro⟨y,hy,rfl⟩
   obtain⟨z,hz,rfl⟩:=List.mem_map.1 (hp.subset ((Y9 y).1 hy))
   exact hz
  ·intro hx
   exact⟨toBy x,(Y9 _).2 (hp.symm.subset (List.mem_map.2 ⟨x,hx,rfl⟩)),rfl⟩
end Go.Proofs.YtidebdbjekijkaaGreat
namespace Go.Proofs
open Go.Shelf
def Tryz.sortRun_ren:Go.Shelf.Ren:=⟨fun|6=>155|15=>186|14=>193|28=>218|29=>219|20=>222|21=>223|22=>224|23=>225|24=>226|25=>227|26=>228|27=>229|46=>240|47=>236|48=>237|49=>241|50=>242|57=>245|n=>n,fun|22=>148|24=>181|25=>184|3=>3|39=>206|0=>0|53=>236|55=>238|4=>4|46=>229|45=>228|50=>218|5=>5|9=>9|66=>250|70=>254|76=>259|77=>260|n=>n,fun|n=>n⟩
theorem Tryz.sortRun:Go.Proofs.SlLaysF0.n6 Tryz.prog Tryz.sortRun_ren:={
 mixed:=by kernel_rfl
 f6:=⟨Tryz.f155.name,by decide,Tryz.func155.trans (congrArg some (by kernel_rfl))⟩
 f14:=⟨Tryz.f193.name,by decide,Tryz.func193.trans (congrArg some (by kernel_rfl))⟩
 f15:=Tryz.func186.trans (congrArg some (by kernel_rfl))
 f20:=⟨Tryz.f222.name,by decide,Tryz.func222.trans (congrArg some (by kernel_rfl))⟩
 f21:=⟨Tryz.f223.name,by decide,Tryz.func223.trans (congrArg some (by kernel_rfl))⟩
 f22:=⟨Tryz.f224.name,by decide,Tryz.func224.trans (congrArg some (by kernel_rfl))⟩
 f23:=⟨Tryz.f225.name,by decide,Tryz.func225.trans (congrArg some (by kernel_rfl))⟩
 f24:=⟨Tryz.f226.name,by decide,Tryz.func226.trans (congrArg some (by kernel_rfl))⟩
 f25:=⟨Tryz.f227.name,by decide,Tryz.func227.trans (congrArg some (by kernel_rfl))⟩
 f26:=⟨Tryz.f228.name,by decide,Tryz.func228.trans (congrArg some (by kernel_rfl))⟩
 f27:=⟨Tryz.f229.name,by decide,Tryz.func229.trans (congrArg some (by kernel_rfl))⟩
 f28:=Tryz.func218.trans (congrArg some (by kernel_rfl))
 f29:=Tryz.func219.trans (congrArg some (by kernel_rfl))
 f46:=⟨Tryz.f240.name,by decide,Tryz.func240.trans (congrArg some (by kernel_rfl))⟩
 f47:=Tryz.func236.trans (congrArg some (by kernel_rfl))
 f48:=Tryz.func237.trans (congrArg some (by kernel_rfl))
 f49:=⟨Tryz.f241.name,by decide,Tryz.func241.trans (congrArg some (by kernel_rfl))⟩
 f50:=⟨Tryz.f242.name,by decide,Tryz.func242.trans (congrArg some (by kernel_rfl))⟩
 f57:=⟨Tryz.f245.name,by decide,Tryz.func245.trans (congrArg some (by kernel_rfl))⟩
 t0:=Tryz.underlying0
 a0:=Tryz.isAgg0
 z0:=Tryz.sizeOf0
 v0:=Tryz.zeroValue0
 t3:=Tryz.underlying3
 a3:=Tryz.isAgg3
 z3:=Tryz.sizeOf3
 v3:=Tryz.zeroValue3
 t4:=Tryz.underlying4
 a4:=Tryz.isAgg4
 z4:=Tryz.sizeOf4
 v4:=Tryz.zeroValue4
 t5:=Tryz.underlying5
 a5:=Tryz.isAgg5
 z5:=Tryz.sizeOf5
 v5:=Tryz.zeroValue5
 t9:=Tryz.underlying9
 a9:=Tryz.isAgg9
 z9:=Tryz.sizeOf9
 v9:=Tryz.zeroValue9
 t22:=Tryz.underlying148
 a22:=Tryz.isAgg148
 z22:=Tryz.sizeOf148
 v22:=Tryz.zeroValue148
 t25:=Tryz.underlying184
 a25:=Tryz.isAgg184
 z25:=Tryz.sizeOf184
 v25:=Tryz.zeroValue184
 t39:=Tryz.underlying206
 a39:=Tryz.isAgg206
 z39:=Tryz.sizeOf206
 v39:=Tryz.zeroValue206
 t45:=Tryz.underlying228
 a45:=Tryz.isAgg228
 z45:=Tryz.sizeOf228
 v45:=Tryz.zeroValue228
 t46:=Tryz.underlying229
 a46:=Tryz.isAgg229
 z46:=Tryz.sizeOf229
 v46:=Tryz.zeroValue229
 t50:=Tryz.underlying218
 a50:=Tryz.isAgg218
 z50:=Tryz.sizeOf218
 v50:=Tryz.zeroValue218
 t53:=Tryz.underlying236
 a53:=Tryz.isAgg236
 z53:=Tryz.sizeOf236
 v53:=Tryz.zeroValue236
 t55:=Tryz.underlying238
 a55:=Tryz.isAgg238
 z55:=Tryz.sizeOf238
 v55:=Tryz.zeroValue238
 t66:=Tryz.underlying250
 a66:=Tryz.isAgg250
 z66:=Tryz.sizeOf250
 v66:=Tryz.zeroValue250
 t70:=Tryz.underlying254
 a70:=Tryz.isAgg254
 z70:=Tryz.sizeOf254
 v70:=Tryz.zeroValue254
 t76:=Tryz.underlying259
 a76:=Tryz.isAgg259
 z76:=Tryz.sizeOf259
 v76:=Tryz.zeroValue259
 t77:=Tryz.underlying260
 a77:=Tryz.isAgg260
 z77:=Tryz.sizeOf260
 v77:=Tryz.zeroValue260 }
end Go.Proofs
namespace Go.Proofs.YtidebdbjekijkaaGreat
open Go.RowKit Go.Sort
theorem qQf {w:World}{g n:Nat}{os:Array Obj}{cur:Array Value}{e:TypeId}{fr:Nat×Nat}(F:Array Value)(hb:w.heap[g]?=some (.cells cur e fr)) :
  (grow (putRow id (Sort.ahead w n) g 0 F) os).heap[g]?=some (.cells (putCells id 0 F cur) e fr):=by
 have hg:g<w.heap.size:=(Array.getElem?_eq_some_iff.1 hb).1
 rw[heap_grow_old _ _ (by simpa using hg)]
 simp[putRow,mapBlock,Sort.ahead,Array.getElem?_modify,hb,onCells]
theorem Jj {w:World}{g n:Nat}{os:Array Obj}(F:Array Value):w.grownBy (grow (putRow id (Sort.ahead w n) g 0 F) os) (some g):=by
 refine⟨rfl,rfl,rfl,by simp,fun k hk hne=>?_⟩
 rw[heap_grow_old _ _ (by simpa using hk)]
 have:g≠k:=fun e=>hne (by rw[e])
 simp[putRow,mapBlock,Sort.ahead,Array.getElem?_modify,this]
def encR {α:Type}(en:α->Int×Int)(x:α):List Value:=[.int .i64 (en x).1,.int .i64 (en x).2]
theorem YZ {α:Type}[Inhabited α](en:α->Int×Int)(l:List α)(j:Nat)(hj:j<l.length*2):(l.map (encR en)).flatten[j]?=some ((encR en l[j / 2]!)[j % 2]!):=by
 have hm:j % 2<2:=Nat.mod_lt _ (by omega)
 have hd:j=j / 2*2+j % 2:=by omega
 have hf:=Zx (sz:=2) (l.map (encR en)) (fun cs h=>by obtain⟨x,_,rfl⟩:=List.mem_map.1 h;rfl) (j / 2) (j % 2) hm
 rw[←hd]at hf
 have hlt:j / 2<l.length:=by omega
 rw[hf,List.getElem?_map,List.getElem?_eq_getElem hlt]
 simp only[Option.map_some,Option.bind_some]
 rw[getElem!_pos l (j / 2) hlt]
 rcases (show j % 2=0∨j % 2=1 by omega) with e|e<;>rw[e]<;>rfl
theorem Y0 {α:Type}[Inhabited α](en:α->Int×Int)(cf:α->α->Int)(hO:SWO (ltOf cf))(g:Nat)(eg:∀ args w,(callFunc g args).run Tryz.prog w=.ok (.enter g args) w)
  (hc:∀ (x y:α) (W:World),Calls Tryz.prog g #[.agg #[.int .i64 (en x).1,.int .i64 (en x).2],.agg #[.int .i64 (en y).1,.int .i64 (en y).2]] W fun e w'=>e=.returned (.int .i64 (cf x y))/\∃ q os',w'=grow (W.drewN q) os')
  (ds:List α) (v:Value) (w:World) (base:Nat) (h:OwnP w base 181 2 RuE v (ds.map en)) (hl:ds.length<=900000) (hbase:base<=w.heap.size) :
  Calls Tryz.prog 155 #[v,.func (.func g) #[] #[]] w fun e w'=>e=.returned (.tuple #[]) /\
   ∃ ts:List α,ts.Perm ds/\ts.Pairwise (fun a b=>0<=cf b a)/\OwnP w' base 181 2 RuE v (ts.map en)/\Below base w w':=by
 obtain⟨css,h1,h2,h3⟩:=h
 rcases h3 with⟨rfl,hn⟩|⟨b,cap,cur,rfl,hb,hg,hnc,hm,hcs,ht⟩
 ·obtain rfl:ds=[]:=by simpa using hn
  refine (AnyF.slices_SortFunc_none Tryz.sortRun none 0 (.func (.func g) #[] #[]) w).mono ?_
  rintro e w' ⟨rfl,rfl⟩
  exact⟨rfl,[],List.Perm.refl _,List.Pairwise.nil,OwnP.nil,Below.refl _ _⟩
 ·have hlt:b<w.heap.size:=(Array.getElem?_eq_some_iff.1 hg).1
  have hlen:(ds.map en).length=ds.length:=List.length_map ..
  rw[hlen]at h2 hnc ht ⊢
  have hcss:css=ds.map (encR en):=by
   apply List.ext_getElem?
   intro j
   by_cases hj:j<ds.length
   ·obtain⟨cs,hcs,⟨hcv,_⟩,_⟩:=h1.2 j (en ds[j]) (by rw[List.getElem?_map,List.getElem?_eq_getElem hj];rfl)
    rw[hcs,List.getElem?_map,List.getElem?_eq_getElem hj,hcv];rfl
   ·rw[List.getElem?_eq_none (by rw[h1.1,hlen];omega),List.getElem?_eq_none (by simp;omega)]
  have hok:∀ x∈ds,I64 (en x).1/\I64 (en x).2:=fun x hx=>by
   obtain⟨j,hj⟩:=List.getElem?_of_mem hx
   obtain⟨cs,_,⟨_,hr⟩,_⟩:=h1.2 j (en x) (by rw[List.getElem?_map,hj];rfl)
   exact hr
  have hH:HoldsK (encR en) 2 w b 0 ds.toArray:=by
   intro j hj
   have hj:j<ds.length*2:=by simpa using hj
   refine⟨?_,by simp[World.frozen?,hg]⟩
   rw[get_flatK _ _ _ _ (by simpa using hj),Nat.zero_add,show (w.cell? ⟨b,j,none⟩)=cur[j]? from by simp[World.cell?,hg]]
   have hf:=YZ en ds j hj
   rw[←hcss,←ht,List.getElem?_take_of_lt hj,Array.getElem?_toList]at hf
   rw[hf];simp
  have hcon:=AnyQ.slices_SortFunc Tryz.sortRun 2 Tryz.isAgg181 Tryz.sizeOf181 (encR en) (fun _=>rfl) (fun x u hu=>by simp[encR]at hu;rcases hu with rfl|rfl<;>rfl) cf hO g #[] b 0 cap ds.toArray w eg
   (fun m os dk _ x y=>hc x y _) hH hlt (by simp;omega)
  have hcon':Calls Tryz.prog 155 #[.slice (some ⟨b,0,none⟩) ds.length cap,.func (.func g) #[] #[]] w _:=hcon
  refine hcon'.mono ?_
  rintro e w' ⟨rfl,d',n,os,hp,hs,rfl⟩
  have hsz:d'.size=ds.length:=by simpa using hp.1
  have hperm:d'.toList.Perm ds:=by
   have:=hp.2.2
   rw[show ds.toArray.extract 0 ds.toArray.size=ds.toArray by simp,show d'.extract 0 ds.toArray.size=d' by rw[show ds.toArray.size=d'.size by simp[hsz]];simp]at this
   simpa using this
  refine⟨rfl,d'.toList,hperm,?_,⟨d'.toList.map (encR en),⟨by simp,fun j x hx=>?_⟩,?_⟩,?_⟩
  ·rw[List.pairwise_iff_getElem]
   intro i j hi hj hij
   have hj':j<d'.size:=by simpa using hj
   have h4:=hs i j (Nat.zero_le _) hij (by simp;omega)
   rw[getElem!_pos d' i (by omega),getElem!_pos d' j hj']at h4
   simp only[ltOf,decide_eq_false_iff_not,Int.not_lt]at h4
   simpa using h4
  ·rw[List.getElem?_map]at hx
   obtain⟨y,hy,rfl⟩:=Option.map_eq_some_iff.1 hx
   refine⟨encR en y,by rw[List.getElem?_map,hy];rfl,⟨rfl,hok y (hperm.subset (List.mem_of_getElem? hy))⟩,rfl⟩
  ·have hlm:(d'.toList.map en).length=ds.length:=by simp[hsz]
   rw[hlm]
   refine⟨by rw[ZX (sz:=2) _ (fun cs h=>by obtain⟨x,_,rfl⟩:=List.mem_map.1 h;rfl)];simp[hsz],.inr ⟨b,cap,_,rfl,hb,qQf _ hg,hnc,hm,by simp[putCells,hcs],?_⟩⟩
   apply List.ext_getElem?
   intro j
   by_cases hj:j<ds.length*2
   ·have hjc:j<cur.size:=by rw[hcs];have:=Nat.mul_le_mul_right 2 hnc;omega
    rw[List.getElem?_take_of_lt hj,Array.getElem?_toList,YZ en d'.toList j (by simp[hsz];omega)]
    simp only[putCells,Array.getElem?_mapIdx,Array.getElem?_eq_getElem hjc,Option.map_some]
    rw[if_pos ⟨Nat.zero_le _,by simp[hsz];omega⟩,Nat.sub_zero,id,get_flatK _ _ _ _ (by rw[hsz];exact hj)]
    simp only[Array.getElem!_toList]
   ·rw[List.getElem?_take_eq_none (by omega),List.getElem?_eq_none (by rw[ZX (sz:=2) _ (fun cs h=>by obtain⟨x,_,rfl⟩:=List.mem_map.1 h;rfl)];simp[hsz];omega)]
  ·exact (Below.refl base w).grown (Jj _) hbase (fun g hg=>by cases hg;exact hb)
theorem YS (x y:Int):ltOf cmpI x y=decide (x<y):=by
 unfold ltOf cmpI
 by_cases h1:x<y
 ·simp[h1]
 ·by_cases h2:y<x<;>simp[h1,h2]
theorem swoI:SWO (ltOf cmpI) where
 irrefl x:=by rw[YS];simp
 trans x y z h1 h2:=by rw[YS]at *;simp at *;omega
 ntrans x y z h1 h2:=by rw[YS]at *;simp at *;omega
theorem Y4 (a b:Int):0<=cmpI b a↔a<=b:=by
 unfold cmpI;split<;>(try split)<;>omega
theorem qQi (x y:Int×Int)(W:World):Calls Tryz.prog 156 #[.agg #[.int .i64 x.1,.int .i64 x.2],.agg #[.int .i64 y.1,.int .i64 y.2]] W fun e w'=>e=.returned (.int .i64 (cmpI x.1 y.1))/\∃ q os',w'=grow (W.drewN q) os':=by
 go_enter Tryz.func156,Tryz.ntmps156
 go_wp2_with (go_at_call 157;refine (ZW _ _ _).mono ?_;rintro e w' ⟨rfl,rfl⟩)
 go_ret
 exact⟨rfl,0,_,by rw[alloc_eq_grow,alloc_eq_grow,grow_grow];rfl⟩
def dup (n:Int):Int×Int:=(n,n)
theorem qYp {ns ts:List Int}(hn:∀ x∈ns,numB x=true)(hp:ts.Perm ns)(hs:ts.Pairwise fun a b=>a<=b):joinL (ts.map dup)=ofL ns:=by
 have hn':∀ x∈ns,1<=x/\x<=1099511627776:=fun x hx=>by simpa[numB] using hn x hx
 obtain⟨a1,a2⟩:=Yc hn'
 obtain⟨b1,b2⟩:=Y2 (l:=ts.map dup) (fun r hr=>by
  obtain⟨x,hx,rfl⟩:=List.mem_map.1 hr
  have:=hn' x (hp.subset hx)
  exact⟨this.1,Int.le_refl _,this.2⟩) (List.pairwise_map.2 hs)
 refine ZR _ _ none none b1 a1 fun n=>?_
 rw[b2,Bool.eq_iff_iff,a2]
 unfold hasL
 rw[List.any_eq_true]
 constructor
 ·rintro⟨r,hr,h⟩
  obtain⟨x,hx,rfl⟩:=List.mem_map.1 hr
  have h2:x<=n/\n<=x:=by
   have h3:(decide (x<=n)&&decide (n<=x))=true:=h
   simpa using h3
  obtain rfl:n=x:=by omega
  exact hp.subset hx
 ·intro h
  exact⟨dup n,List.mem_map.2 ⟨n,hp.symm.subset h,rfl⟩,by simp[dup,inR]⟩
theorem qYq (ns:List Int)(v:Value)(w:World)(h:SlP w w.heap.size 1 InE v ns)(hn:∀ x∈ns,numB x=true)(hN:ns.length<=400000) :
  Calls Tryz.prog 115 #[v] w fun e w'=>∃ v',e=.returned (.tuple #[v',.int .i64 0])/\OwnP w' w.heap.size 181 2 RuE v' (ofL ns)/\Below w.heap.size w w':=by
 obtain⟨A,c,rfl,b1,b2,b3⟩:=h
 unfold Big at b2
 go_enter Tryz.func115,Tryz.ntmps115
 go_wp2_with fail
 go_loopw [4,9] (fun v i wr=>∃ k:Nat,k<=ns.length/\i=.int .i64 k/\OwnP wr w.heap.size 181 2 RuE v ((ns.take k).map dup)/\Below w.heap.size w wr) (fun _ i _=>ns.length-(intOf i).toNat)
 case atStart=>exact⟨0,Nat.zero_le _,rfl,OwnP.nil,Below.refl _ _⟩
 case round=>
  obtain⟨k,hk,rfl,hown,hb⟩:=hrel
  have hsz:=hb.size
  by_cases hlt:k<ns.length
  ·obtain⟨x,hx⟩:∃ x,ns[k]?=some x:=⟨_,List.getElem?_eq_getElem hlt⟩
   obtain⟨b,off,rfl,hbB,hc⟩:=b3 (by rintro rfl;simp at hlt)
   obtain⟨cs,⟨rfl,hok⟩,_,hu⟩:=hc k _ hx
   have e0:wr.cell? ⟨b,off+k,none⟩=some (.int .i64 x):=(hb.cell hbB).trans (by simpa using hu 0 _ rfl)
   have HB:=hid (hn x (List.mem_of_getElem? hx))
   have HX:Hid ((ns.take (k+1)).map dup=(ns.take k).map dup++[dup x]):=by unfold Hid;rw[Q5 hx,List.map_append];rfl
   have HRE:Hid (RuE (dup x) [.int .i64 x,.int .i64 x]):=⟨rfl,hok,hok⟩
   have HL:Hid (((ns.take k).map dup).length + [dup x].length<=Few):=by unfold Hid Few;simp;omega
   clear hu hx hc b3 hok
   go_wp2_with (first|(go_at_call 154;refine (Zp _ _).mono ?_;rw[HB.out];rintro e w' ⟨rfl,rfl⟩)|(at_builtin;with_reducible refine Qj rfl (.tmp 16) (.tmp 20) _ rfl eiRun (by decide) (by decide) (fun _ _ h=>h.one) rfl (hown.alloc _) rfl (SlP.one (x:=dup x) HRE.out rfl _ rfl) HL.out (by rw[World.size_alloc];omega) ?_;intro v1 w1 hown1 hb1 _))
   go_roundw
   case rel=>exact⟨k+1,by omega,by go_num,by rw[HX.out];exact hown1,hb.trans (((Below.refl _ _).alloc (by omega) _).trans hb1)⟩
   case measure=>simp[intOf];omega
  ·obtain rfl:k=ns.length:=by omega
   rw[List.take_of_length_le (Nat.le_refl _)]at hown
   have HC:Hid (∀ W base v,OwnP W base 181 2 RuE v (ns.map dup)->base<=W.heap.size->Calls Tryz.prog 155 #[v,.func (.func 156) #[] #[]] W fun e w'=>e=.returned (.tuple #[]) /\
    ∃ ts:List Int,ts.Perm ns/\ts.Pairwise (fun a b=>a<=b)/\OwnP w' base 181 2 RuE v (ts.map dup)/\Below base W w'):=fun W base v ho hbs=>
     (Y0 dup cmpI swoI 156 (enters_of Tryz.func156 (by kernel_rfl) rfl) (fun x y W=>qQi (dup x) (dup y) W) ns v W base ho (by omega) hbs).mono fun e w' ⟨he,ts,h1,h2,h3,h4⟩=>
      ⟨he,ts,h1,h2.imp fun h=>(Y4 _ _).1 h,h3,h4⟩
   have HN:=hid hn
   clear hn b3
   go_wp2_with fail
   refine (HC.out _ _ _ hown hsz).mono ?_
   rintro e w1 ⟨rfl,ts,hp,hs,ho1,hb1⟩
   have HJ:=hid (qYp HN.out hp hs)
   have hs1:=hb1.size
   have hlen:ts.length=ns.length:=hp.length_eq
   have hsl:=ho1.sl (by rw[List.length_map,hlen];unfold Big;omega)
   have hro:QT (ts.map dup):=fun r hr=>by
    obtain⟨x,hx,rfl⟩:=List.mem_map.1 hr
    have:=HN.out x (hp.subset hx)
    simp[numB]at this
    simp[dup];omega
   have HRO:=hid hro
   have HL1:Hid ((ts.map dup).length<=900000):=by unfold Hid;rw[List.length_map,hlen];omega
   clear hp hs hro hlen ho1 hown
   go_wp2_with fail
   refine (Y3 (ts.map dup) _ w1 hsl HL1.out HRO.out).mono ?_
   rintro e w2 ⟨v2,rfl,ho2,hb2⟩
   rw[HJ.out]at ho2
   go_wp2_with fail
   go_ret2
   exact⟨_,rfl,ho2.mono (by omega),(hb.trans hb1).trans (hb2.mono (by omega))⟩
end Go.Proofs.YtidebdbjekijkaaGreat
namespace Go.Proofs.YtidebdbjekijkaaGreat
open Go.RowKit
def OfA (l:List Dt)(w:World)(k:Nat)(wr:World):Prop:=
 ∃ vs:Nat->Value,Rows4 wr (w.heap.size+1) w.heap.size 147 2 1 InE vs (fun i=>numsL (l.take k) i)/\Below w.heap.size w wr
def OfB (l:List Dt)(w1:World)(k:Nat)(wr:World):Prop:=
 ∃ ps:Nat->Value,wr.heap[w1.heap.size]?=some (.cells #[ps 0,ps 1,ps 2,ps 3] 150 (0,0)) /\
  (∀ j,j<4->OwnP wr (w1.heap.size+1) 181 2 RuE (ps j) (if j<k then ofL (numsL l (j:Int)) else []))/\Below w1.heap.size w1 wr
theorem qQj (l:List Dt)(vl:Value)(w:World)(h:SlP w w.heap.size 2 DtE vl l)(hR:∀ d∈l,d.right=true)(hN:l.length<=100000) :
  Calls Tryz.prog 67 #[vl] w fun e w'=>∃ v,e=.returned (.tuple #[v,.int .i64 0])/\OwnP w' w.heap.size 45 3 SpE v (ctxOf l)/\Below w.heap.size w w':=by
 obtain⟨A,n,rfl,b1,b2,b3⟩:=h
 unfold Big at b2
 go_enter Tryz.func67,Tryz.ntmps67
 go_wp2_with fail
 go_loopw [12] (fun i wr=>∃ k:Nat,k<=l.length/\i=.int .i64 k/\OfA l w k wr) (fun i _=>l.length-(intOf i).toNat)
 case atStart=>exact⟨0,Nat.zero_le _,rfl,fun _=>.slice none 0 0,Rows4.start (Qh rfl) (by omega),(Below.refl _ w).alloc (Nat.le_refl _) _⟩
 case round=>
  obtain⟨k,hk,rfl,vs,hr4,hb⟩:=hrel
  have hsz:=hb.size
  have hsz2:w.heap.size<wr.heap.size:=(Array.getElem?_eq_some_iff.1 hr4.arr).1
  have hsz4:w.heap.size≠wr.heap.size:=by omega
  by_cases hlt:k<l.length
  ·obtain⟨⟨dc,num⟩,hx⟩:∃ x,l[k]?=some x:=⟨_,List.getElem?_eq_getElem hlt⟩
   obtain⟨b,off,rfl,hbB,hc⟩:=b3 (by rintro rfl;simp at hlt)
   obtain⟨cs,⟨rfl,hok⟩,_,hu⟩:=hc k _ hx
   have e0:wr.cell? ⟨b,off+k*2,none⟩=some (.int .i64 dc):=(hb.cell hbB).trans (hu 0 _ rfl)
   have e1:wr.cell? ⟨b,off+k*2+1,none⟩=some (.int .i64 num):=(hb.cell hbB).trans (hu 1 _ rfl)
   have hri:=hR _ (List.mem_of_getElem? hx)
   have hbd:(0<=dc/\dc<4)/\1<=num/\num<=1099511627776:=by simpa[Dt.right,and_assoc] using hri
   have HRI:=hid hri
   have HR4:=hid hr4
   obtain⟨d,rfl⟩:∃ d:Nat,dc=(d:Int):=⟨dc.toNat,by omega⟩
   have hd4:d<4:=by omega
   have hdi:(d:Int)<4:=by omega
   have HPD:Hid ((fun i:Nat=>numsL (l.take (k+1)) i)=fun i=>if i=d then numsL (l.take k) d++[num] else numsL (l.take k) i):=by
    unfold Hid;funext i
    rw[Xn hx]
    by_cases e:i=d
    ·subst e;rw[if_pos rfl,if_pos rfl]
    ·rw[if_neg e,if_neg (by show ¬(d:Int)=(i:Int);omega),List.append_nil]
   have HL:Hid ((numsL (l.take k) d).length + [num].length<=Few):=by have:=Q8 (l.take k) d;rw[List.length_take]at this;unfold Hid Few;simp;omega
   have HRE:Hid (InE num [.int .i64 num]):=⟨rfl,hok.n⟩
   have hbp:wr.cell? ⟨w.heap.size,d,none⟩=some (vs d):=HR4.out.at hd4
   have HLT:=hid ((HR4.out.own d hd4).lt)
   clear hu hx hc b3 hok hr4 hri hR
   go_upto_region 7 with (go_at_call 86;refine (Qy ⟨d,num⟩ _).mono ?_;rw[HRI.out];rintro e wd ⟨rfl,hbd'⟩;have hsd:=hbd'.size;simp only[World.size_alloc]at hsd)
   have HB1:Hid (Below wr.heap.size wr wd):=((Below.refl _ wr).alloc (Nat.le_refl _) _).trans (hbd'.mono (by simp))
   have hx0:wd.cell? ⟨wr.heap.size,0,none⟩=some (.int .i64 (d:Int)):=by rw[hbd'.cell (p:=⟨wr.heap.size,0,none⟩) (by simp)];simp
   have hx1:wd.cell? ⟨wr.heap.size,1,none⟩=some (.int .i64 num):=by rw[hbd'.cell (p:=⟨wr.heap.size,1,none⟩) (by simp)];simp
   have hxb:wd.heap[wr.heap.size]?=some (.cells #[.int .i64 (d:Int),.int .i64 num] 52 (0,0)):=(hbd'.block wr.heap.size (by simp)).trans (Qh rfl)
   have HXB:=hid hxb
   have hbp1:wd.cell? ⟨w.heap.size,d,none⟩=some (vs d):=(HB1.out.cell (p:=⟨w.heap.size,d,none⟩) hsz2).trans hbp
   have HR5:=hid (HR4.out.grow HB1.out)
   have hwd1:w.heap.size<wd.heap.size:=by omega
   have hwd2:w.heap.size≠wd.heap.size:=by omega
   have hwd3:wr.heap.size<wd.heap.size:=by omega
   have hwd4:wr.heap.size≠wd.heap.size:=by omega
   have HBW:=hid (hb.trans (HB1.out.mono hsz))
   clear hbp hxb hbd' e0 e1
   go_wp2_with fail
   refine Q7 (S:=fun w'=>w'.cell? ⟨wr.heap.size,0,none⟩=some (.int .i64 (d:Int))/\w'.cell? ⟨wr.heap.size,1,none⟩=some (.int .i64 num)/\w'.cell? ⟨w.heap.size,d,none⟩=some (vs d)) 11 (by kernel_rfl) (by kernel_rfl) ?_
   simp only[List.take_succ_cons,List.take_zero,List.drop_succ_cons,List.drop_zero]
   have hHeld:(fun w':World=>w'.cell? ⟨wr.heap.size,0,none⟩=some (.int .i64 (d:Int))/\w'.cell? ⟨wr.heap.size,1,none⟩=some (.int .i64 num)/\w'.cell? ⟨w.heap.size,d,none⟩=some (vs d)) wd.drew:=by go_keep
   refine wpAnyH_take (i:=0) (oi:=_) (v:=?v0) rfl (by kernel_rfl) (by kernel_rfl) (by kernel_rfl) (fun _ _ _ h=>h) (Or.inl ⟨by rfl,?h0⟩) (by assumption) ?_
   case h0=>(intro w hSw;(try dsimp only at hSw);go_simp;(try with_reducible rfl))
   simp only[Act.put,List.setIfInBounds_toArray]
   refine wpAnyH_take (i:=1) (oi:=_) (v:=?v1) rfl (by kernel_rfl) (by kernel_rfl) (by kernel_rfl) (fun _ _ _ h=>h) (Or.inl ⟨by rfl,?h1⟩) (by assumption) ?_
   case h1=>(intro w hSw;(try dsimp only at hSw);go_simp;(try with_reducible rfl))
   simp only[Act.put,List.setIfInBounds_toArray]
   refine wpAnyH_take (i:=2) (oi:=_) (v:=?v2) rfl (by kernel_rfl) (by kernel_rfl) (by kernel_rfl) (fun _ _ _ h=>h) (Or.inl ⟨by rfl,?h2⟩) (by assumption) ?_
   case h2=>(intro w hSw;(try dsimp only at hSw);go_simp;(try with_reducible rfl))
   simp only[Act.put,List.setIfInBounds_toArray]
   refine wpAnyH_take (i:=3) (oi:=_) (v:=?v3) rfl (by kernel_rfl) (by kernel_rfl) (by kernel_rfl) (fun _ _ _ h=>h) (Or.inl ⟨by rfl,?h3⟩) (by assumption) ?_
   case h3=>(intro w hSw;(try dsimp only at hSw);go_simp;(try with_reducible rfl))
   simp only[Act.put,List.setIfInBounds_toArray]
   refine wpAnyH_take (i:=4) (oi:=_) (v:=?v4) rfl (by kernel_rfl) (by kernel_rfl) (by kernel_rfl) (fun _ _ _ h=>h) (Or.inl ⟨by rfl,?h4⟩) (by assumption) ?_
   case h4=>(intro w hSw;(try dsimp only at hSw);go_simp;(try with_reducible rfl))
   simp only[Act.put,List.setIfInBounds_toArray]
   refine wpAnyH_take (i:=5) (oi:=_) (v:=?v5) rfl (by kernel_rfl) (by kernel_rfl) (by kernel_rfl) (fun _ _ _ h=>h) (Or.inl ⟨by rfl,?h5⟩) (by assumption) ?_
   case h5=>(intro w hSw;(try dsimp only at hSw);go_simp;(try with_reducible rfl))
   simp only[Act.put,List.setIfInBounds_toArray]
   refine wpAnyH_take (i:=6) (oi:=_) (v:=?v6) rfl (by kernel_rfl) (by kernel_rfl) (by kernel_rfl) (fun _ _ _ h=>h) (Or.inl ⟨by rfl,?h6⟩) (by assumption) ?_
   case h6=>(intro w hSw;(try dsimp only at hSw);go_simp;(try with_reducible rfl))
   simp only[Act.put,List.setIfInBounds_toArray]
   refine wpAnyH_take (i:=7) (oi:=_) (v:=?v7) rfl (by kernel_rfl) (by kernel_rfl) (by kernel_rfl) (fun _ _ _ h=>h) (Or.inl ⟨by rfl,?h7⟩) (by assumption) ?_
   case h7=>(intro w hSw;(try dsimp only at hSw);go_simp;(try with_reducible rfl))
   simp only[Act.put,List.setIfInBounds_toArray]
   refine wpAnyH_ready (rs:=[8]) (by kernel_rfl) (by simp) ?_
   refine AllReadyH.cons (o:=_) rfl (fun K hK=>?_) AllReadyH.nil
   go_simp
   refine hK.out _ _ ?_ (fun hHeld8=>?_)
   ·go_keep
   clear hK K
   simp only[List.setIfInBounds_toArray]
   refine wpAnyH_ready (rs:=[9]) (by kernel_rfl) (by simp) ?_
   refine AllReadyH.cons (o:=_) rfl (fun K hK=>?_) AllReadyH.nil
   (refine Jb (v:=vs d) rfl (.tmp 24) (.tmp 27) _ rfl XI (by decide) (by decide) (fun _ _ h=>h.one) rfl (((HR5.out.own d hd4).grow ((Below.refl _ wd).alloc (Nat.le_refl _) _)).drew) rfl (SlP.one (x:=num) HRE.out rfl _ (by simp)) HL.out (by simp;omega) ?_;intro v1 w4 hown4 hb4 hg4 hv4;have hsh4:=OwnP.shape hown4;simp only[List.length_append,List.length_singleton]at hsh4;obtain⟨A1,c1,hv1⟩:=hsh4;subst hv1;have hg4h:Hid (w4.heap[w.heap.size]?=some (.cells #[vs 0,vs 1,vs 2,vs 3] 147 (0,0))):=(hg4.block w.heap.size (by simp;omega) (fun e=>by have:=HLT.out _ e.symm;omega)).trans ((Qi hwd1).trans HR5.out.arr);have hc4:w4.cell? ⟨w.heap.size,d,none⟩=some (vs d):=(Qa hg4h.out).trans (Q1 vs hd4);have hf4:w4.frozen? ⟨w.heap.size,d,none⟩=false:=Qb hg4h.out;have hx3:=(hg4.block wr.heap.size (by simp;omega) (fun e=>by have:=HLT.out _ e.symm;omega)).trans ((Qi hwd3).trans HXB.out);have hx4:Hid (w4.cell? ⟨wr.heap.size,0,none⟩=some (.int .i64 (d:Int))/\w4.cell? ⟨wr.heap.size,1,none⟩=some (.int .i64 num)/\w4.cell? ⟨w.heap.size,d,none⟩=some (vs d)):=⟨(Qa (i:=0) hx3).trans rfl,(Qa (i:=1) hx3).trans rfl,hc4⟩;clear hx3)
   refine hK.out _ _ ?_ (fun hHeld9=>?_)
   ·exact hx4.out
   clear hK K
   simp only[Act.put,List.setIfInBounds_toArray]
   refine wpAnyH_take (i:=10) (oi:=_) (v:=?v10) rfl (by kernel_rfl) (by kernel_rfl) (by kernel_rfl) (fun _ _ _ h=>h) (Or.inl ⟨by rfl,?h10⟩) (by assumption) ?_
   case h10=>(intro w hSw;(try dsimp only at hSw);go_simp;(try with_reducible rfl))
   simp only[Act.put,List.setIfInBounds_toArray]
   refine wpAnyH_done (by kernel_rfl) ?_ _
   change wpList _ _ _ _ _ _
   go_wp2_with fail
   go_roundw
   case rel=>
    refine⟨k+1,by omega,by go_num,fun i=>if i=d then .slice A1 ((numsL (l.take k) d).length+1) c1 else vs i,?_,?_⟩
    ·rw[HPD.out]
     exact Rows4.put (w:=(wd.alloc (.cells #[.int .i64 num] 2)).drew) ((HR5.out.grow ((Below.refl _ _).alloc (Nat.le_refl _) _)).same rfl) hd4 hown4 hg4 hv4
    ·exact (((HBW.out.alloc (by omega) _).drew.trans (hb4.mono (by omega))).setCell (Nat.le_refl _) _)
   case measure=>simp[intOf];omega
  ·obtain rfl:k=l.length:=by omega
   rw[List.take_of_length_le (Nat.le_refl _)]at hr4
   have c0:wr.cell? ⟨w.heap.size,0,none⟩=some (vs 0):=hr4.at (by omega)
   have c1:wr.cell? ⟨w.heap.size,1,none⟩=some (vs 1):=hr4.at (by omega)
   have c2:wr.cell? ⟨w.heap.size,2,none⟩=some (vs 2):=hr4.at (by omega)
   have c3:wr.cell? ⟨w.heap.size,3,none⟩=some (vs 3):=hr4.at (by omega)
   have HR:=hid hr4
   have HRR:=hid hR
   clear hr4 b3 hR
   go_wp2_with fail
   obtain⟨w1,rfl⟩:∃ w1:World,w1=wr:=⟨_,rfl⟩
   go_loopw [32] (fun i wr=>∃ k:Nat,k<=4/\i=.int .i64 k/\OfB l w1 k wr) (fun i _=>4-(intOf i).toNat)
   case atStart=>exact⟨0,by omega,rfl,fun _=>.slice none 0 0,Qh rfl,fun j _=>by rw[if_neg (Nat.not_lt_zero _)];exact OwnP.nil,(Below.refl _ _).alloc (Nat.le_refl _) _⟩
   case round=>
    obtain⟨k,hk,rfl,ps,hpa,hpo,hbi⟩:=hrel
    have hsi:=hbi.size
    have hsi2:w1.heap.size<wr.heap.size:=(Array.getElem?_eq_some_iff.1 hpa).1
    by_cases hk4:k<4
    ·have hki:(k:Int)<4:=by omega
     have hidx:∀ w,(Instr.index 147 (.agg #[vs 0,vs 1,vs 2,vs 3]) (.int .i64 (k:Int))).run Tryz.prog w=.ok (vs k) w:=fun w=>by
      match k,hk4 with
      |0,_=>rfl
      |1,_=>rfl
      |2,_=>rfl
      |3,_=>rfl
     have hnl:=Q8 l k
     have HSL:Hid (SlP wr wr.heap.size 1 InE (vs k) (numsL l k)):=(HR.out.sl hk4 (by show (numsL l k).length<=Big;unfold Big;omega)).imp hbi hsi fun _ _ _ h=>h
     have HNB:Hid (∀ x∈numsL l k,numB x=true):=fun x hx=>by
      unfold numsL at hx
      obtain⟨d,hd,rfl⟩:=List.mem_map.1 hx
      have h1:=HRR.out d (List.mem_filter.1 hd).1
      simp[Dt.right]at h1
      simp[numB];omega
     have HPA:=hid hpa
     have HPO:=hid hpo
     have hpc:wr.cell? ⟨w1.heap.size,k,none⟩=some (ps k):=(Qa hpa).trans (Q1 ps hk4)
     clear hpa hpo
     go_wp2_with fail
     refine (qYq (numsL l k) (vs k) wr HSL.out HNB.out (by omega)).mono ?_
     rintro e w2 ⟨v2,rfl,ho2,hb2⟩
     obtain⟨A2,n2,rfl⟩:=ho2.shape
     have hp2:=(hb2.block w1.heap.size hsi2).trans HPA.out
     have hc2:w2.cell? ⟨w1.heap.size,k,none⟩=some (ps k):=(Qa hp2).trans (Q1 ps hk4)
     have hf2:w2.frozen? ⟨w1.heap.size,k,none⟩=false:=Qb hp2
     have HP2:=hid hp2
     have HO2:=hid ho2
     clear hp2 ho2 hpc hidx
     go_wp2_with fail
     go_roundw
     case rel=>
      refine⟨k+1,by omega,by go_num,fun j=>if j=k then .slice A2 (ofL (numsL l k)).length n2 else ps j,?_,fun j hj=>?_,(hbi.trans (hb2.mono hsi)).setCell (Nat.le_refl _) _⟩
      ·rw[Qe HP2.out,XK ps hk4]
      ·by_cases e:j=k
       ·subst e
        simp only[if_true,if_pos (Nat.lt_succ_self j)]
        exact (HO2.out.mono (by omega)).setOther (by simp) _
       ·have e2:(if j<k+1 then ofL (numsL l (j:Int)) else [])=(if j<k then ofL (numsL l (j:Int)) else []):=by
         by_cases e3:j<k
         ·rw[if_pos e3,if_pos (by omega)]
         ·rw[if_neg e3,if_neg (by omega)]
        simp only[if_neg e]
        rw[e2]
        exact ((HPO.out j hj).grow hb2).setOther (by simp) _
     case measure=>simp[intOf];omega
    ·obtain rfl:k=4:=by omega
     have d0:wr.cell? ⟨w1.heap.size,0,none⟩=some (ps 0):=Qa (i:=0) hpa
     have d1:wr.cell? ⟨w1.heap.size,1,none⟩=some (ps 1):=Qa (i:=1) hpa
     have d2:wr.cell? ⟨w1.heap.size,2,none⟩=some (ps 2):=Qa (i:=2) hpa
     have d3:wr.cell? ⟨w1.heap.size,3,none⟩=some (ps 3):=Qa (i:=3) hpa
     have HOL:∀ j:Nat,(ofL (numsL l (j:Int))).length<=100001:=fun j=>by have:=XM (numsL l (j:Int));have:=Q8 l (j:Int);omega
     have HSP:Hid (∀ j,j<4->SlP wr wr.heap.size 2 RuE (ps j) (ofL (numsL l (j:Int)))):=fun j hj=>by
      have:=hpo j hj
      rw[if_pos hj]at this
      exact this.sl (by have:=HOL j;unfold Big;omega)
     have HOLH:=hid HOL
     clear hpa hpo HOL
     go_wp2_with fail
     refine (Jo (fun j=>ofL (numsL l (j:Int))) ps wr HSP.out (fun j _=>by have:=HOLH.out j;show (ofL _).length<=_;omega)).mono ?_
     rintro e w2 ⟨v2,rfl,ho2,hb2⟩
     go_wp2_with fail
     go_ret2
     exact⟨_,rfl,ho2.mono (by omega),(hb.trans (hbi.mono hsz)).trans (hb2.mono (by omega))⟩
def qYs (t:Tr)(w:World)(e:Ending)(w':World):Prop:=
 ∃ v n,e=.returned (.tuple #[v,.int .i64 n])/\n=(if t.right 5 then 0 else 1)/\OwnP w' w.heap.size 45 3 SpE v (if t.right 5 then ctxOf t.dots else [])/\Below w.heap.size w w'
theorem Jw (t:Tr)(ve vk:Value)(w:World)(h:t.rd w w.heap.size ve vk)(hN:t.sz<=90000) :
  Calls Tryz.prog 95 #[.agg #[ve,vk]] w (qYs t w):=by
 have HC:Hid (∀ w',Below w.heap.size w w'->t.rd w' w'.heap.size ve vk):=fun w' hb=>Qg hb hb.size _ _ _ h
 have hdl:=Zr t
 obtain⟨A3,n3,A4,n4,rfl,rfl⟩:=Qk h
 have hb0:=(Below.refl w.heap.size w).alloc (Nat.le_refl _) (.cells #[.slice A3 t.es.length n3,.slice A4 t.ks.length n4] 25)
 clear h
 go_enter Tryz.func95,Tryz.ntmps95
 go_wp2_with fail
 refine (QW t _ _ _ (HC.out _ hb0)).mono ?_
 rintro e w1 ⟨rfl,hb1⟩
 have hs1:=hb1.size
 simp only[World.size_alloc]at hs1
 have hB1:Below w.heap.size w w1:=hb0.trans (hb1.mono (by simp))
 have c0:w1.cell? ⟨w.heap.size,0,none⟩=some (.slice A3 t.es.length n3):=by rw[hb1.cell (p:=⟨w.heap.size,0,none⟩) (by simp)];simp
 have c1:w1.cell? ⟨w.heap.size,1,none⟩=some (.slice A4 t.ks.length n4):=by rw[hb1.cell (p:=⟨w.heap.size,1,none⟩) (by simp)];simp
 cases hr:t.right 5
 ·have HR:=hid hr
  clear hr
  go_wp2_with fail
  go_ret2
  exact⟨_,_,rfl,by rw[HR.out];rfl,by rw[HR.out];exact OwnP.nil,hB1⟩
 ·have HR:=hid hr
  have HD:=hid (ZH t 5 hr)
  clear hr
  go_wp2_with fail
  refine (qZ8 t _ _ _ (HC.out _ hB1) (by omega)).mono ?_
  rintro e w2 ⟨v2,rfl,ho2,hb2⟩
  have hs2:=hb2.size
  have hsl:=ho2.sl (by unfold Big;omega)
  clear ho2
  go_wp2_with fail
  refine (qQj t.dots v2 w2 hsl HD.out (by omega)).mono ?_
  rintro e w3 ⟨v3,rfl,ho3,hb3⟩
  go_wp2_with fail
  go_ret2
  exact⟨_,_,rfl,by rw[HR.out];rfl,by rw[HR.out];exact ho3.mono (by omega),(hB1.trans (hb2.mono (by omega))).trans (hb3.mono (by omega))⟩
theorem qJd {t:Tr}(h:t.right 5=true)(d:Dt):cHas (ctxOf t.dots) d=hasC (ctxOf t.dots) d:=qYr (QM (ZH t 5 h)) d
def chkI (t:Tr)(d:Dt):Int:=if chkT t d then 0 else 1
theorem Vt (t:Tr)(d:Dt)(ve vk:Value)(w:World)(h:t.rd w w.heap.size ve vk)(hN:t.sz<=90000) :
  Calls Tryz.prog 66 #[.agg #[ve,vk],.agg #[.int .i64 d.dc,.int .i64 d.n]] w fun e w'=>e=.returned (.int .i64 (chkI t d))/\Below w.heap.size w w':=by
 have HC:Hid (∀ w',Below w.heap.size w w'->t.rd w' w'.heap.size ve vk):=fun w' hb=>Qg hb hb.size _ _ _ h
 have hcl:(ctxOf t.dots).length<=900000:=by have:=QK t.dots 4;have:=Zr t;unfold ctxOf;omega
 have HCL:=hid hcl
 obtain⟨A3,n3,A4,n4,rfl,rfl⟩:=Qk h
 have hb0:=((Below.refl w.heap.size w).alloc (Nat.le_refl _) (.cells #[.slice A3 t.es.length n3,.slice A4 t.ks.length n4] 25)).alloc (by simp) (.cells #[.int .i64 d.dc,.int .i64 d.n] 52)
 clear h hcl
 go_enter Tryz.func66,Tryz.ntmps66
 go_wp2_with fail
 refine (Jw t _ _ _ (HC.out _ hb0) hN).mono ?_
 rintro e w1 ⟨v1,n1,rfl,hn1,ho1,hb1⟩
 have hs1:=hb1.size
 simp only[World.size_alloc]at hs1
 have hB1:Below w.heap.size w w1:=hb0.trans (hb1.mono (by simp;omega))
 have c0:w1.cell? ⟨w.heap.size+1,0,none⟩=some (.int .i64 d.dc):=by rw[hb1.cell (p:=⟨w.heap.size+1,0,none⟩) (by simp)];simp
 have c1:w1.cell? ⟨w.heap.size+1,1,none⟩=some (.int .i64 d.n):=by rw[hb1.cell (p:=⟨w.heap.size+1,1,none⟩) (by simp)];simp
 cases hr:t.right 5
 ·have HR:Hid (chkT t d=false):=by unfold Hid chkT;rw[hr];rfl
  rw[hr]at hn1
  obtain rfl:n1=1:=hn1
  clear hr ho1
  go_wp2_with fail
  go_ret
  exact⟨QG (by rw[chkI,HR.out];rfl),hB1⟩
 rw[hr]at hn1 ho1
 obtain rfl:n1=0:=hn1
 simp only[if_true]at ho1
 have hsl:=ho1.sl (by have:=HCL.out;unfold Big;omega)
 have HSL:=hid hsl
 cases hd:d.right
 ·have HR:Hid (chkT t d=false):=by unfold Hid chkT;rw[hr,hd];rfl
  have HD:=hid hd
  clear hr ho1 hsl hd
  go_wp2_with (go_at_call 86;refine (Qy d _).mono ?_;rw[HD.out];rintro e w2 ⟨rfl,hb2⟩)
  go_ret
  exact⟨QG (by rw[chkI,HR.out];rfl),hB1.trans (hb2.mono (by omega))⟩
 ·have HR:Hid (chkT t d = !cHas (ctxOf t.dots) d):=by unfold Hid chkT;rw[hr,hd,qJd hr];rfl
  have HD:=hid hd
  clear hr ho1 hsl hd
  go_wp2_with fail
  refine (Qy d _).mono ?_
  rw[HD.out]
  rintro e w2 ⟨rfl,hb2⟩
  have hs2:=hb2.size
  have d0:w2.cell? ⟨w.heap.size+1,0,none⟩=some (.int .i64 d.dc):=(hb2.cell (p:=⟨w.heap.size+1,0,none⟩) (by show w.heap.size+1<_;omega)).trans c0
  have d1:w2.cell? ⟨w.heap.size+1,1,none⟩=some (.int .i64 d.n):=(hb2.cell (p:=⟨w.heap.size+1,1,none⟩) (by show w.heap.size+1<_;omega)).trans c1
  go_wp2_with fail
  refine (Z2 (ctxOf t.dots) d v1 w2 (HSL.out.imp hb2 hs2 fun _ _ _ h=>h) HCL.out).mono ?_
  rintro e w3 ⟨rfl,hb3⟩
  have hB3:=(hB1.trans (hb2.mono (by omega))).trans (hb3.mono (show w.heap.size<=_ by omega))
  generalize cHas (ctxOf t.dots) d=q at *
  cases q
  all_goals
   go_wp2_with fail
   go_ret
   exact⟨QG (by rw[chkI,HR.out];rfl),hB3⟩
def RetCE (w:World)(t:Tr)(c:List Sp)(k:Int)(e:Ending)(w':World):Prop:=
 ∃ ve vk vc,e=.returned (.tuple #[.agg #[ve,vk,vc],.int .i64 k])/\t.rda w' (fun b=>w.heap.size<=b/\b<w'.heap.size) ve vk/\SlA w' (fun b=>w.heap.size<=b/\b<w'.heap.size) 3 SpE vc c/\Below w.heap.size w w'
theorem Vu {t:Tr}{d:Dt}(h:chkT t d=true):d.right=true:=by
 unfold chkT at h;simp at h;exact h.1.2
theorem SlA.one {α:Type}{w:World}{ok:Nat->Prop}{sz n:Nat}{E:α->List Value->Prop}{x:α}{cs:List Value}{e:TypeId}{z:Nat×Nat}(hE:E x cs)(hl:cs.length=sz)(h:w.heap[n]?=some (.cells cs.toArray e z))(ho:ok n) :
  SlA w ok sz E (.slice (some ⟨n,0,none⟩) 1 1) [x]:=by
 refine⟨_,1,rfl,Nat.le_refl _,by simp[Big],fun _=>⟨_,0,rfl,ho,fun j y hy=>?_⟩⟩
 match j,hy with
 |0,hy=>
  simp at hy;subst hy
  exact⟨cs,hE,hl,fun i u hi=>by rw[Qa h];simpa using hi⟩
theorem En.Ok.mk' {d:Dt}{n:Int}(hd:d.Ok)(hn:I64 n):En.Ok ⟨d.dc,d.n,ByteArray.empty,n⟩:=⟨hd.dc,hd.n,hn,by simp[Big]⟩
theorem qQl:∀ (t:Tr) (d:Int),t.right d=true->(t.dep:Int)<=d:=by
 intro t
 induction t using Tr.ind with
 |h es ks ih=>
 intro d h
 rw[Tr.right,Bool.and_eq_true,Bool.and_eq_true,decide_eq_true_eq]at h
 obtain⟨⟨h1,_⟩,h2⟩:=h
 rw[Tr.dep]
 have:∀ (p:Option ByteArray) (ks:List Kd),(∀ k t,(k,t)∈ks->∀ d,t.right d=true->(t.dep:Int)<=d)->Tr.rightL p ks d=true->(Tr.depL ks:Int)<=d-1:=by
  intro p ks
  induction ks generalizing p with
  |nil=>intro _ _;simp[Tr.depL];omega
  |cons x ks ih'=>
   obtain⟨k,t⟩:=x
   intro hi h
   rw[QL,Bool.and_eq_true,Bool.and_eq_true]at h
   have a:=hi k t (by simp) _ h.1.2
   have b:=ih' (some k) (fun k t hm=>hi k t (by simp[hm])) h.2
   rw[Tr.depL];omega
 have:=this none ks ih h2
 omega
theorem Xv (t:Tr):empB t.es.length t.ks.length=t.empty:=by
 obtain⟨es,ks⟩:=t
 rw[Bool.eq_iff_iff];simp[empB,Tr.empty,Tr.es,Tr.ks]
def joinK (a b:Tr):List ByteArray:=cmpL (srtL ((a.ks++b.ks).map (·.1)))
def joinF (f:ByteArray->Tr)(k:ByteArray):List Kd:=if (f k).empty then [] else [(k,f k)]
def joinT:Nat->List Sp->List Sp->Tr->Tr->Tr
 |0,_,_,_,_=>.mk [] []
 |n+1,ca,cb,a,b=>.mk (entL ca cb a.es b.es) ((joinK a b).flatMap (joinF fun k=>joinT n ca cb (kidT a k) (kidT b k)))
theorem qQm (f:ByteArray->Tr)(k:ByteArray):(joinF f k).length<=1:=by unfold joinF;split<;>simp
theorem YE (f:ByteArray->Tr):∀ l:List ByteArray,(l.flatMap (joinF f)).length<=l.length
 |[]=>by simp
 |k :: l=>by
  have h1:=qQm f k
  have h2:=YE f l
  rw[List.flatMap_cons,List.length_append,List.length_cons];omega
theorem Vv {l:List ByteArray}{k:Nat}{x:ByteArray}(h:l[k]?=some x)(f:ByteArray->Tr):(l.take (k+1)).flatMap (joinF f)=(l.take k).flatMap (joinF f)++joinF f x:=by
 rw[List.take_add_one,h,List.flatMap_append];simp
theorem qXh (l:List ByteArray):(cmpL l).length<=l.length:=by
 unfold cmpL
 have:=Lib.compact_length_le (l.map toBy)
 rw[List.length_map]at this ⊢;exact this
theorem qXi {l:List ByteArray}{x:ByteArray}(h:x∈cmpL l):x∈l:=by
 unfold cmpL at h
 obtain⟨y,hy,rfl⟩:=List.mem_map.1 h
 unfold Lib.compact Lib.compactUpTo at hy
 obtain⟨j,hj,rfl⟩:=List.mem_map.1 hy
 have hj':j<(l.map toBy).length:=List.mem_range.1 (List.mem_filter.1 hj).1
 rw[getElem!_pos _ j (by simpa using hj')]
 simp[qQc]
theorem qXj {l:List ByteArray}{x:ByteArray}(h:x∈srtL l):x∈l:=by
 unfold srtL at h
 obtain⟨y,hy,rfl⟩:=List.mem_map.1 h
 obtain⟨z,hz,rfl⟩:=List.mem_map.1 ((List.mergeSort_perm _ _).subset hy)
 exact hz
theorem qQn {a b:Tr}{x:ByteArray}(h:x∈joinK a b):∃ t,(x,t)∈a.ks∨(x,t)∈b.ks:=by
 have:=qXj (qXi h)
 obtain⟨⟨k,t⟩,hm,rfl⟩:=List.mem_map.1 this
 rcases List.mem_append.1 hm with h|h
 ·exact⟨t,.inl h⟩
 ·exact⟨t,.inr h⟩
theorem qQo (a b:Tr):(joinK a b).length<=a.ks.length+b.ks.length:=by
 unfold joinK
 have h1:=qXh (srtL ((a.ks++b.ks).map (·.1)))
 rw[KI,List.length_map,List.length_append]at h1
 exact h1
theorem Y8 (t:Tr):1<=t.dep:=by obtain⟨es,ks⟩:=t;rw[Tr.dep];omega
theorem YF {t u:Tr}{k:ByteArray}(h:(k,u)∈t.ks):u.dep+1<=t.dep:=by
 obtain⟨es,ks⟩:=t
 rw[Tr.dep];have:=qQe (show (k,u)∈ks from h);omega
theorem ZI {t:Tr}(ho:t.Ord){n:Nat}(h:t.dep<=n+1)(hn:1<=n)(k:ByteArray):(kidT t k).dep<=n:=by
 by_cases hm:∃ u,(k,u)∈t.ks
 ·obtain⟨u,hm⟩:=hm
  rw[Z9 ho hm];have:=YF hm;omega
 ·rw[Ya fun u hu=>hm ⟨u,hu⟩];simp[Tr.dep,Tr.depL];omega
theorem ZA {a b:Tr}{n:Nat}(ha:a.dep<=n+1)(hb:b.dep<=n+1){x:ByteArray}(h:x∈joinK a b):1<=n:=by
 obtain⟨t,h|h⟩:=qQn h
 ·have:=YF h;have:=Y8 t;omega
 ·have:=YF h;have:=Y8 t;omega
theorem es_sz (t:Tr):t.es.length+t.ks.length<=t.sz:=by
 obtain⟨es,ks⟩:=t
 have:=JU ks
 rw[Tr.sz];simp only[Tr.es,Tr.ks];omega
theorem qYd {t:Tr}{w:World}{B:Nat}{ve vk:Value}(h:t.rd w B ve vk):SlP w B 4 EnE ve t.es:=by
 obtain⟨es,ks⟩:=t;exact (QH.1 h).1
theorem Yf {w w':World}{o:Obj}(h:Below (w.alloc o).heap.size (w.alloc o) w'):Below w.heap.size w w':=((Below.refl _ w).alloc (Nat.le_refl _) o).trans (h.mono (by simp))
theorem qYt {wr w7:World}{n N:Nat}{x y u v:Value}{e:TypeId}{t:Tr}(hbox:w7.heap[n]?=some (.cells #[x,y] e (0,0)))(hn:wr.heap.size<=n)(hb:Below wr.heap.size wr w7)(hr:t.rda w7 (fun b=>N<=b/\b<w7.heap.size) u v)(hnN:n<N) :
  ∀ W,Below ((w7.setCell ⟨n,0,none⟩ u).setCell ⟨n,1,none⟩ v).heap.size ((w7.setCell ⟨n,0,none⟩ u).setCell ⟨n,1,none⟩ v) W->W.cell? ⟨n,0,none⟩=some u/\W.cell? ⟨n,1,none⟩=some v/\Below wr.heap.size wr W/\t.rda W (fun b=>wr.heap.size<=b/\b<W.heap.size) u v:=by
 intro W hW
 have hsz:((w7.setCell ⟨n,0,none⟩ u).setCell ⟨n,1,none⟩ v).heap.size=w7.heap.size:=by simp[World.setCell]
 rw[hsz]at hW
 have hlt:=lt_of_block hbox
 have hg:W.heap[n]?=some (.cells #[u,v] e (0,0)):=(hW.block n hlt).trans (by simpa using Qe (i:=1) (Qe (i:=0) hbox u) v)
 have hs:=hW.size
 rw[hsz]at hs
 refine⟨Qa (i:=0) hg,Qa (i:=1) hg,((hb.setCell hn _).setCell hn _).trans (hW.mono hb.size),Qw (fun b hb'=>?_) (fun b hb'=>⟨by omega,by omega⟩) _ _ _ hr⟩
 rw[hW.block b hb'.2]
 exact (Below.heap_setCell _ _ _ _ (by simp;omega)).trans (Below.heap_setCell _ _ _ _ (by simp;omega))
theorem qYu {wr w7:World}{N:Nat}{u v:Value}{e:TypeId}{t:Tr}(hb:Below wr.heap.size wr w7)(hr:t.rda w7 (fun b=>N<=b/\b<w7.heap.size) u v)(hN:wr.heap.size<=N) :
  ∀ W,Below (w7.alloc (.cells #[u,v] e)).heap.size (w7.alloc (.cells #[u,v] e)) W->W.cell? ⟨w7.heap.size,0,none⟩=some u/\W.cell? ⟨w7.heap.size,1,none⟩=some v/\Below wr.heap.size wr W/\t.rda W (fun b=>wr.heap.size<=b/\b<W.heap.size) u v:=by
 intro W hW
 have hg:W.heap[w7.heap.size]?=some (.cells #[u,v] e (0,0)):=(hW.block _ (by simp)).trans (Qh rfl)
 have hs:=hW.size
 rw[World.size_alloc]at hs
 refine⟨Qa (i:=0) hg,Qa (i:=1) hg,(hb.alloc hb.size _).trans (hW.mono (by have:=hb.size;simp;omega)),Qw (fun b hb'=>?_) (fun b hb'=>⟨by omega,by omega⟩) _ _ _ hr⟩
 rw[hW.block b (by rw[World.size_alloc];omega)]
 exact Qi hb'.2
theorem Vx (ca cb:List Sp)(hN1:ca.length<=900000)(hN2:cb.length<=900000):∀ (n:Nat) (a b:Tr) (va ka vb kb vca vcb:Value) (w:World),a.rd w w.heap.size va ka->b.rd w w.heap.size vb kb->SlP w w.heap.size 3 SpE vca ca->SlP w w.heap.size 3 SpE vcb cb->a.Ord->b.Ord->a.dep<=n->b.dep<=n->a.sz<=100000->b.sz<=100000 ->
  Calls Tryz.prog 117 #[.agg #[va,ka],.agg #[vb,kb],vca,vcb] w (RetT w (joinT n ca cb a b)):=by
 intro n
 induction n with
 |zero=>intro a b _ _ _ _ _ _ w _ _ _ _ _ _ h _ _ _;have:=Y8 a;omega
 |succ n ih=>
 intro a b va ka vb kb vca vcb w ha hb hca hcb hoa hob hda hdb hza hzb
 have HA:=hid ha
 have HB:=hid hb
 have HCA:Hid (∀ w',Below w.heap.size w w'->SlP w' w'.heap.size 3 SpE vca ca):=fun w' hb=>hca.imp hb hb.size fun _ _ _ h=>h
 have HCB:Hid (∀ w',Below w.heap.size w w'->SlP w' w'.heap.size 3 SpE vcb cb):=fun w' hb=>hcb.imp hb hb.size fun _ _ _ h=>h
 have hea:=es_sz a
 have heb:=es_sz b
 have hel:=Zq ca cb _ a.es b.es (Nat.le_refl _)
 obtain⟨A1,n1,A2,n2,rfl,rfl⟩:=Qk ha
 obtain⟨A3,n3,A4,n4,rfl,rfl⟩:=Qk hb
 obtain⟨A5,n5,rfl,_⟩:=hca
 obtain⟨A6,n6,rfl,_⟩:=hcb
 have hb0:Below w.heap.size w (((w.alloc (.cells #[.slice A1 a.es.length n1,.slice A2 a.ks.length n2] 25)).alloc (.cells #[.slice A3 b.es.length n3,.slice A4 b.ks.length n4] 25)).alloc (.cells #[.slice none 0 0,.slice none 0 0] 25)):=(((Below.refl _ w).alloc (Nat.le_refl _) _).alloc (by simp) _).alloc (by simp;omega) _
 have HW:Hid (∀ w',Below (w.heap.size+3) (((w.alloc (.cells #[.slice A1 a.es.length n1,.slice A2 a.ks.length n2] 25)).alloc (.cells #[.slice A3 b.es.length n3,.slice A4 b.ks.length n4] 25)).alloc (.cells #[.slice none 0 0,.slice none 0 0] 25)) w'->Below w.heap.size w w'/\w.heap.size+3<=w'.heap.size/\w'.heap[w.heap.size]?=some (.cells #[.slice A1 a.es.length n1,.slice A2 a.ks.length n2] 25 (0,0))/\w'.heap[w.heap.size+1]?=some (.cells #[.slice A3 b.es.length n3,.slice A4 b.ks.length n4] 25 (0,0))/\w'.heap[w.heap.size+2]?=some (.cells #[.slice none 0 0,.slice none 0 0] 25 (0,0))):=fun w' hb=>
  ⟨hb0.trans (hb.mono (by omega)),by have:=hb.size;simpa using this,(hb.block _ (by omega)).trans ((Qi (by simp<;>omega)).trans ((Qi (by simp)).trans (Qh rfl))),(hb.block _ (by omega)).trans ((Qi (by simp)).trans (Qh (by simp))),(hb.block _ (by omega)).trans (Qh (by simp))⟩
 have HOA:=hid hoa
 have HOB:=hid hob
 clear ha hb hoa hob
 go_enter Tryz.func117,Tryz.ntmps117
 go_wp2_with fail
 refine (Jc a.es b.es ca cb _ _ _ _ _ ((qYd HA.out).imp hb0 hb0.size fun _ _ _ h=>h) ((qYd HB.out).imp hb0 hb0.size fun _ _ _ h=>h) (HCA.out _ hb0) (HCB.out _ hb0) (by omega) hN1 hN2).mono ?_
 rintro e w1 ⟨v1,rfl,ho1,hb1⟩
 obtain⟨Ae,ce,rfl⟩:=OwnP.shape ho1
 have HO1:=hid ho1
 have hJ:joinT (n+1) ca cb a b=.mk (entL ca cb a.es b.es) ((joinK a b).flatMap (joinF fun k=>joinT n ca cb (kidT a k) (kidT b k))):=rfl
 have HJ:=hid hJ
 generalize entL ca cb a.es b.es=E at *
 have hb1':=hid (hb1.mono (show w.heap.size+3<=_ by simp))
 obtain⟨hB1,hs1,g0,g1,g2⟩:=HW.out _ hb1'.out
 have a1:w1.cell? ⟨w.heap.size,1,none⟩=some (.slice A2 a.ks.length n2):=Qa (i:=1) g0
 have b1:w1.cell? ⟨w.heap.size+1,1,none⟩=some (.slice A4 b.ks.length n4):=Qa (i:=1) g1
 have hlt0:w.heap.size<w1.heap.size:=by omega
 have hlt1:w.heap.size+1<w1.heap.size:=by omega
 have hne0:w.heap.size≠w1.heap.size:=by omega
 have hne1:w.heap.size+1≠w1.heap.size:=by omega
 clear ho1 hJ g0 g1 g2 hb1
 have hb2:Below w.heap.size w ((w1.alloc (.cells #[.slice Ae E.length ce,.slice none 0 0] 25)).alloc (.cells #[.slice A2 a.ks.length n2,.slice A4 b.ks.length n4] 23)):=(hB1.alloc (by omega) _).alloc (by simp;omega) _
 go_wp2_with fail
 refine (J3 w w.heap.size a.ks b.ks _ _ (w1.heap.size+1) _ (by simp) (by simp) (by simp) ((XR HA.out).imp hb2 hb2.size fun _ _ _ h=>h) ((XR HB.out).imp hb2 hb2.size fun _ _ _ h=>h) (by omega) (by omega)).mono ?_
 rintro e w2 ⟨v2,rfl,ho2,hb3⟩
 have hs2:=hb3.size
 simp only[World.size_alloc]at hs2
 have hb12:Below (w1.heap.size+1) (w1.alloc (.cells #[.slice Ae E.length ce,.slice none 0 0] 25)) w2:=((Below.refl _ _).alloc (by simp) _).trans (hb3.mono (by simp))
 obtain⟨Ac,cc,rfl⟩:=OwnP.shape ho2
 have HSL:=hid (ho2.sl (by unfold Big;simp;omega))
 have HB12:=hid hb12
 clear ho2 hb3 hb12 a1 b1 hb2
 obtain⟨KS,hKS⟩:∃ KS,KS=a.ks++b.ks:=⟨_,rfl⟩
 have hKl:KS.length<=200000:=by rw[hKS,List.length_append];omega
 rw[←hKS]at HSL ⊢
 have HKS:=hid hKS
 clear hKS
 go_wp2_with fail
 go_loopw [10,31] (fun v i wr=>∃ k:Nat,k<=KS.length/\i=.int .i64 k/\OwnP wr w2.heap.size 9 1 StE v ((KS.take k).map (·.1))/\Below w2.heap.size w2 wr) (fun _ i _=>KS.length-(intOf i).toNat)
 case atStart=>exact⟨0,Nat.zero_le _,rfl,OwnP.nil,Below.refl _ _⟩
 case round=>
  obtain⟨k,hk,rfl,hown,hb⟩:=hrel
  have hsz:=hb.size
  by_cases hlt:k<KS.length
  ·obtain⟨⟨key,t⟩,hx⟩:∃ x,KS[k]?=some x:=⟨_,List.getElem?_eq_getElem hlt⟩
   obtain⟨A,m,hv,c1,c2,c3⟩:=HSL.out
   cases hv
   obtain⟨b,off,rfl,hbB,hc⟩:=c3 (by rintro rfl;simp at hlt)
   obtain⟨cs,⟨ve',vk',rfl,hkb,hrd⟩,_,hu⟩:=hc k _ hx
   obtain⟨A5,n5,A6,n6,rfl,rfl⟩:=Qk hrd
   have e0:wr.cell? ⟨b,off+k*3,none⟩=some (.string key):=(hb.cell hbB).trans (hu 0 _ rfl)
   have e1:wr.cell? ⟨b,off+k*3+1,none⟩=some (.slice A5 t.es.length n5):=(hb.cell hbB).trans (hu 1 _ rfl)
   have e2:wr.cell? ⟨b,off+k*3+2,none⟩=some (.slice A6 t.ks.length n6):=(hb.cell hbB).trans (hu 2 _ rfl)
   have HX:Hid ((KS.take (k+1)).map (·.1)=(KS.take k).map (·.1)++[key]):=by unfold Hid;rw[List.take_add_one,hx];simp
   have HL:Hid (((KS.take k).map (·.1)).length + [key].length<=Few):=by unfold Hid Few;simp;omega
   have HKY:Hid (StE key [.string key]):=⟨rfl,hkb⟩
   clear hu hc c3 hx hrd
   go_wp2_with (at_builtin;go_loud ((with_reducible refine Qj rfl (.tmp 35) (.tmp 38) _ rfl eiStr (by decide) (by decide) (fun _ _ h=>StE.one h) rfl ((hown.alloc _).alloc _) rfl (SlP.oneN (x:=key) HKY.out rfl _ rfl) HL.out (by simp only[World.size_alloc];omega) ?_);intro v1 w3 hown1 hb2 _;have hb3:=(((Below.refl w2.heap.size wr).alloc (by omega) _).alloc (by simp only[World.size_alloc];omega) _).trans hb2))
   go_roundw
   case rel=>exact⟨k+1,by omega,by go_num,by rw[HX.out];exact hown1,hb.trans hb3⟩
   case measure=>simp[intOf];omega
  ·obtain rfl:k=KS.length:=by omega
   rw[List.take_of_length_le (Nat.le_refl _)]at hown
   go_wp2_with fail
   refine (J4 _ _ _ _ hown (by simp;omega) hsz).mono ?_
   rintro e w3 ⟨rfl,ho3,hb3⟩
   have hs3:w2.heap.size<=w3.heap.size:=Nat.le_trans hsz hb3.size
   go_wp2_with fail
   refine (Xb _ _ _ _ ho3 (by rw[KI];simp;omega) hs3).mono ?_
   rintro e w4 ⟨v4,rfl,ho4,hb4⟩
   have hs4:w2.heap.size<=w4.heap.size:=Nat.le_trans hs3 hb4.size
   have hKK:cmpL (srtL (KS.map (·.1)))=joinK a b:=by unfold joinK;rw[HKS.out]
   rw[hKK]at ho4
   have hkl:=qQo a b
   have hB24:Below w2.heap.size w2 w4:=(hb.trans hb3).trans hb4
   have HKM:Hid (∀ x∈joinK a b,1<=n):=fun x hx=>ZA hda hdb hx
   clear hKK hown ho3 hb hb3 hb4 hsz hs3 hlt hk
   have hB14:Below (w1.heap.size+1) (w1.alloc (.cells #[.slice Ae E.length ce,.slice none 0 0] 25)) w4:=HB12.out.trans (hB24.mono (by omega))
   have HG4:Hid (w4.heap[w1.heap.size]?=some (.cells #[.slice Ae E.length ce,.slice none 0 0] 25 (0,0))):=(hB14.block _ (by omega)).trans (Qh rfl)
   have HB14:Hid (Below w1.heap.size w1 w4):=((Below.refl _ w1).alloc (Nat.le_refl _) _).trans (hB14.mono (by omega))
   have HSLA:=hid (ho4.sla (by unfold Big;omega))
   obtain⟨A9,c9,hv4⟩:=OwnP.shape ho4
   subst hv4
   clear ho4 hB14 hB24 wr
   have hJK:Hid ((joinK a b).flatMap (joinF fun k=>joinT n ca cb (kidT a k) (kidT b k))=(joinK a b).flatMap (joinF fun k=>joinT n ca cb (kidT a k) (kidT b k))):=rfl
   generalize hKKe:joinK a b=KK at *
   have HKKe:=hid hKKe
   clear hKKe
   generalize hFF:(fun k=>joinT n ca cb (kidT a k) (kidT b k))=F at *
   have HF:Hid (∀ k,F k=joinT n ca cb (kidT a k) (kidT b k)):=fun k=>by rw[←hFF]
   clear hFF hJK
   have hlt4:w1.heap.size<w4.heap.size:=by omega
   go_wp2_with fail
   go_loopw [46] (fun i wr=>∃ k:Nat,k<=KK.length/\i=.int .i64 k/\∃ Ak ck,wr.heap[w1.heap.size]?=some (.cells #[.slice Ae E.length ce,.slice Ak ((KK.take k).flatMap (joinF F)).length ck] 25 (0,0)) /\
     OwnD wr w4.heap.size 106 3 KdA (fun b=>w4.heap.size<=b) (.slice Ak ((KK.take k).flatMap (joinF F)).length ck) ((KK.take k).flatMap (joinF F))/\w4.heap.size<=wr.heap.size/\Below w1.heap.size w1 wr/\∀ b,w1.heap.size<b->b<w4.heap.size->wr.heap[b]?=w4.heap[b]?) (fun i _=>KK.length-(intOf i).toNat)
   case atStart=>exact⟨0,Nat.zero_le _,rfl,none,0,HG4.out,OwnP.nil,Nat.le_refl _,HB14.out,fun _ _ _=>rfl⟩
   case round=>
    obtain⟨k,hk,rfl,Ak,ck,hg,hown,hsz,hb,hkp⟩:=hrel
    have hB0:Below w.heap.size w wr:=hB1.trans (hb.mono (by omega))
    have hszk:=hown.lt
    by_cases hlt:k<KK.length
    ·obtain⟨key,hx⟩:∃ x,KK[k]?=some x:=⟨_,List.getElem?_eq_getElem hlt⟩
     obtain⟨A,m,hv,c1,c2,c3⟩:=HSLA.out
     cases hv
     obtain⟨b',off,rfl,hbB,hc⟩:=c3 (by rintro rfl;simp at hlt)
     obtain⟨cs,⟨rfl,hkb⟩,_,hu⟩:=hc k _ hx
     have e0:wr.cell? ⟨b',off+k,none⟩=some (.string key):=(by unfold World.cell?;rw[hkp b' (by have:=hbB.1;omega) hbB.2.1]:wr.cell? ⟨b',off+k,none⟩=w4.cell? ⟨b',off+k,none⟩).trans (by simpa using hu 0 _ rfl)
     have hn1:=HKM.out key (List.mem_of_getElem? hx)
     have HX:=hid (Vv hx F)
     have HJL:=YE F (KK.take k)
     rw[List.length_take]at HJL
     generalize (KK.take k).flatMap (joinF F)=js at *
     have HL:Hid (js.length + [(key,F key)].length<=Few):=by unfold Hid Few;simp;omega
     have HKB:=hid hkb
     have HC8:Hid (∀ W,Below wr.heap.size wr W->(W.cell? ⟨w.heap.size,0,none⟩=some (.slice A1 a.es.length n1)/\W.cell? ⟨w.heap.size,1,none⟩=some (.slice A2 a.ks.length n2)/\W.cell? ⟨w.heap.size+1,0,none⟩=some (.slice A3 b.es.length n3)/\W.cell? ⟨w.heap.size+1,1,none⟩=some (.slice A4 b.ks.length n4))/\Below w.heap.size w W):=fun W hW=>by
      obtain⟨q0,_,q1,q2,_⟩:=HW.out W (hb1'.out.trans ((hb.mono (by omega)).trans (hW.mono (by omega))))
      exact⟨⟨Qa (i:=0) q1,Qa (i:=1) q1,Qa (i:=0) q2,Qa (i:=1) q2⟩,q0⟩
     have HRA:Hid (∀ W,Below wr.heap.size wr W->a.rd W W.heap.size (.slice A1 a.es.length n1) (.slice A2 a.ks.length n2)):=fun W hW=>Qg (HC8.out W hW).2 (HC8.out W hW).2.size _ _ _ HA.out
     have HRB:Hid (∀ W,Below wr.heap.size wr W->b.rd W W.heap.size (.slice A3 b.es.length n3) (.slice A4 b.ks.length n4)):=fun W hW=>Qg (HC8.out W hW).2 (HC8.out W hW).2.size _ _ _ HB.out
     obtain⟨⟨q0,q1,q2,q3⟩,_⟩:=HC8.out wr (Below.refl _ _)
     have HIH:=hid (ih (kidT a key) (kidT b key))
     have HDA:=hid (ZI HOA.out hda hn1 key)
     have HDB:=hid (ZI HOB.out hdb hn1 key)
     have HZA:=hid (Nat.le_trans (qQa a key) hza)
     have HZB:=hid (Nat.le_trans (qQa b key) hzb)
     have hFk:=HF.out key
     have HFK:=hid hFk
     clear hu hc c3 hx hkb hn1 hFk ih
     go_upto_region 12 with (fail)
     go_region_held3 (fun w'=>w'.cell? ⟨w.heap.size,0,none⟩=some (.slice A1 a.es.length n1)/\w'.cell? ⟨w.heap.size,1,none⟩=some (.slice A2 a.ks.length n2)/\w'.cell? ⟨w.heap.size+1,0,none⟩=some (.slice A3 b.es.length n3)/\w'.cell? ⟨w.heap.size+1,1,none⟩=some (.slice A4 b.ks.length n4))
      (first|go_keep|exact (HC8.out _ hbk3.out).1|exact (HC8.out _ (hbk3.out.alloc hbk3.out.size _)).1|exact (HC8.out _ hbk2.out).1|exact (HC8.out _ (hbk2.out.alloc hbk2.out.size _)).1|exact (HC8.out _ hbk1.out).1|exact (HC8.out _ (hbk1.out.alloc hbk1.out.size _)).1|exact (HC8.out _ ((hbk3.out.setCell hge.out _).setCell hge.out _)).1)
      (first
          |(have hq:=hbk2;go_at_call 117;go_loud ((refine (HIH.out _ _ _ _ _ _ _ (by first|exact HQA2.out|exact Qg (Yf (Below.refl _ _)) (by simp) _ _ _ HQA2.out) (by first|exact HQB.out|exact Qg (Yf (Below.refl _ _)) (by simp) _ _ _ HQB.out) (HCA.out _ (HC8.out _ (by first|exact hbk2.out|exact hbk2.out.alloc hbk2.out.size _)).2) (HCB.out _ (HC8.out _ (by first|exact hbk2.out|exact hbk2.out.alloc hbk2.out.size _)).2) (ZE HOA.out key) (ZE HOB.out key) HDA.out HDB.out HZA.out HZB.out).mono ?_);rw[←HFK.out];rintro e w7 ⟨ve7,vk7,rfl,hrd7,hb⟩;obtain⟨Av,nv,Aw,nw,rfl,rfl⟩:=Qp hrd7;have HR7:=hid hrd7;have hb':Below w6.heap.size w6 w7:=(by first|exact hb|exact Yf hb);have hbk3:Hid (Below wr.heap.size wr w7):=hbk2.out.trans (hb'.mono (by have:=hbk2.out.size;simpa using this));(try (have hnN:=hid (lt_of_block hbox.out);have hbox:=hid ((hb.block _ hnN.out).trans hbox.out)));(try (have hbox:Hid (w7.heap[w6.heap.size]?=some (.cells #[.slice none 0 0,.slice none 0 0] 25 (0,0))):=(hb.block _ (by simp;done)).trans (Qh rfl);have hnN:Hid (w6.heap.size<(w6.alloc (.cells #[.slice none 0 0,.slice none 0 0] 25)).heap.size):=(by unfold Hid;simp);have hge:=hid hs6));(try (have z0:=Qb (i:=0) hbox.out;have z1:=Qb (i:=1) hbox.out;have y0:=Qa (i:=0) hbox.out;have y1:=Qa (i:=1) hbox.out));clear hrd7 hb hb'))
          |(have hq:=hbk1;go_at_call 161;go_loud ((refine (KF b key _ _ _ (HRB.out _ (by first|exact hbk1.out|exact hbk1.out.alloc hbk1.out.size _)) HOB.out).mono ?_);rintro e w6 ⟨ve6,vk6,rfl,hrd6,hb⟩;have hb':Below w5.heap.size w5 w6:=(by first|exact hb|exact Yf hb);have HQB:=hid (Qg hb hb.size _ _ _ hrd6);have HQA2:=hid (Qg hb' hb'.size _ _ _ HQA.out);have hbk2:Hid (Below wr.heap.size wr w6):=hbk1.out.trans (hb'.mono (by have:=hbk1.out.size;simpa using this));have hs6:=hbk2.out.size;(try (have hbox:=hid ((hb.block _ (lt_of_block hbox.out)).trans hbox.out)));(try (have hbox:Hid (w6.heap[w5.heap.size]?=some (.cells #[.slice none 0 0,.slice none 0 0] 25 (0,0))):=(hb.block _ (by simp;done)).trans (Qh rfl);have hge:=hid hs5));clear hrd6 hb hb'))
          |(go_at_call 161;go_loud ((refine (KF a key _ _ _ (HRA.out _ (by go_grown)) HOA.out).mono ?_);rintro e w5 ⟨ve5,vk5,rfl,hrd5,hb⟩;have HQA:=hid (Qg hb hb.size _ _ _ hrd5);have hbk1:Hid (Below wr.heap.size wr w5):=(Below.trans (by go_grown) (hb.mono (by simp)));have hs5:=hbk1.out.size;(try (have hbox:Hid (w5.heap[wr.heap.size]?=some (.cells #[.slice none 0 0,.slice none 0 0] 25 (0,0))):=(hb.block _ (by simp;done)).trans (Qh (by simp));have hge:=hid (Nat.le_refl wr.heap.size)));clear hrd5 hb)))
     all_goals (
      first
       |have hFIN:=hid (qYt hbox.out hge.out hbk3.out HR7.out hnN.out)
       |have hFIN:=hid (qYu (e:=25) hbk3.out HR7.out (by have:=hbk2.out.size;simp;omega))
      have hge4:=hbk3.out.size
      obtain⟨q4,q5,_,_⟩:=hFIN.out _ (Below.refl _ _)
      go_wp2_with fail
      refine (QJ _ _ _ _ _ _ _).mono ?_
      rintro e w8 ⟨rfl,hb8⟩
      obtain⟨q6,q7,hb9,hrd9⟩:=hFIN.out _ hb8
      have hs9:=hb9.size
      have hg8:=(hb9.block w1.heap.size (by omega)).trans hg
      have hkp8:∀ b,w1.heap.size<b->b<w4.heap.size->w8.heap[b]?=w4.heap[b]?:=fun b h1 h2=>(hb9.block b (by omega)).trans (hkp b h1 h2)
      have hown8:=hown.grow KdA.mon hb9
      clear q0 q1 q2 q3 q4 q5
      cases he:empB (F key).es.length (F key).ks.length
      ·have HX2:Hid ((KK.take (k+1)).flatMap (joinF F)=js++[(key,F key)]):=by
        unfold Hid;rw[HX.out];unfold joinF;rw[←Xv,he];rfl
       have c9:w8.cell? ⟨w1.heap.size,1,none⟩=some (.slice Ak js.length ck):=Qa (i:=1) hg8
       have hlt8:w1.heap.size<w8.heap.size:=by omega
       clear he
       go_wp2_with (at_builtin;go_loud ((with_reducible refine YR (v:=.slice Ak js.length ck) rfl (.tmp 63) (.tmp 67) _ rfl KdA.mon eiKid (by decide) (by decide) rfl (hown8.grow KdA.mon ((Below.refl _ w8).alloc (Nat.le_refl _) (.cells #[.string key,.slice Av (F key).es.length nv,.slice Aw (F key).ks.length nw] 106))) rfl (VV hrd9 HKB.out (fun b hb=>⟨hb.2,by have:=hb.1;omega,by rw[World.size_alloc];have:=hb.2;omega,fun e=>by have:=hszk b e;have:=hb.1;omega⟩) _ (by rw[World.size_alloc];omega)) HL.out (by rw[World.size_alloc];omega) ?_);intro v1 w9 hown9 hb10 _ _;have hsh9:∃ A c,v1=.slice A (js++[(key,F key)]).length c:=OwnP.shape hown9;obtain⟨A1',c1',hv1⟩:=hsh9;subst hv1;have hg9:=hid ((hb10.block _ hlt4).trans ((Qi hlt8).trans hg8));have hc9:w9.cell? ⟨w1.heap.size,1,none⟩=some (.slice Ak js.length ck):=Qa (i:=1) hg9.out;have hf9:=Qb (i:=1) hg9.out))
       have hb11:=((hb9.mono (show w4.heap.size<=_ from hsz)).alloc (show w4.heap.size<=w8.heap.size by omega) _).trans hb10
       have hs11:=hb11.size
       go_roundw
       case rel=>
        refine⟨k+1,by omega,by go_num,A1',c1',?_,?_,?_,?_,?_⟩
        ·rw[HX2.out];simpa using Qe (i:=1) hg9.out (.slice A1' (js.length+1) c1')
        ·rw[HX2.out];exact OwnD.setOther hown9 KdA.mon hlt4 (by simp;omega) _
        ·simp[World.setCell];omega
        ·exact (hb.trans (hb11.mono (by omega))).setCell (by simp) _
        ·intro b h1 h2
         exact (Below.heap_setCell _ _ _ _ (by simp;omega)).trans ((hb11.block b h2).trans (hkp b h1 h2))
       case measure=>simp[intOf];omega
      ·have HX2:Hid ((KK.take (k+1)).flatMap (joinF F)=js):=by
        unfold Hid;rw[HX.out];unfold joinF;rw[←Xv,he];simp
       clear he
       go_wp2_with fail
       go_roundw
       case rel=>exact⟨k+1,by omega,by go_num,Ak,ck,by rw[HX2.out];exact hg8,by rw[HX2.out];exact hown8,by omega,hb.trans (hb9.mono (by omega)),hkp8⟩
       case measure=>simp[intOf];omega)
    ·obtain rfl:k=KK.length:=by omega
     rw[List.take_of_length_le (Nat.le_refl _)]at hg hown hszk
     have hJe:joinT (n+1) ca cb a b=.mk E (KK.flatMap (joinF F)):=by
      rw[HJ.out,←HKKe.out]
     have hjl:=YE F KK
     generalize KK.flatMap (joinF F)=JS at *
     have c0:wr.cell? ⟨w1.heap.size,0,none⟩=some (.slice Ae E.length ce):=Qa (i:=0) hg
     have c1:wr.cell? ⟨w1.heap.size,1,none⟩=some (.slice Ak JS.length ck):=Qa (i:=1) hg
     have hg2:=(HW.out wr (hb1'.out.trans (hb.mono (by omega)))).2.2.2.2
     have d0:wr.cell? ⟨w.heap.size+2,0,none⟩=some (.slice none 0 0):=Qa (i:=0) hg2
     have d1:wr.cell? ⟨w.heap.size+2,1,none⟩=some (.slice none 0 0):=Qa (i:=1) hg2
     have z0:=Qb (i:=0) hg2
     have z1:=Qb (i:=1) hg2
     go_wp2_with fail
     have hW0:=Qe (i:=1) (Qe (i:=0) hg2 (.slice Ae E.length ce)) (.slice Ak JS.length ck)
     have hKW:∀ b,w.heap.size+3<=b->((wr.setCell ⟨w.heap.size+2,0,none⟩ (.slice Ae E.length ce)).setCell ⟨w.heap.size+2,1,none⟩ (.slice Ak JS.length ck)).heap[b]?=wr.heap[b]?:=fun b hb=>(Below.heap_setCell _ _ _ _ (by simp;omega)).trans (Below.heap_setCell _ _ _ _ (by simp;omega))
     have hSW:((wr.setCell ⟨w.heap.size+2,0,none⟩ (.slice Ae E.length ce)).setCell ⟨w.heap.size+2,1,none⟩ (.slice Ak JS.length ck)).heap.size=wr.heap.size:=by simp[World.setCell]
     have hBW:Below w.heap.size w ((wr.setCell ⟨w.heap.size+2,0,none⟩ (.slice Ae E.length ce)).setCell ⟨w.heap.size+2,1,none⟩ (.slice Ak JS.length ck)):=(hB0.setCell (by simp) _).setCell (by simp) _
     clear c0 c1 d0 d1 z0 z1
     generalize ((wr.setCell ⟨w.heap.size+2,0,none⟩ (.slice Ae E.length ce)).setCell ⟨w.heap.size+2,1,none⟩ (.slice Ak JS.length ck))=W at *
     have r0:W.cell? ⟨w.heap.size+2,0,none⟩=some (.slice Ae E.length ce):=(Qa (i:=0) hW0).trans (by simp)
     have r1:W.cell? ⟨w.heap.size+2,1,none⟩=some (.slice Ak JS.length ck):=(Qa (i:=1) hW0).trans (by simp)
     refine bodyPost_ret (v:=.agg #[.slice Ae E.length ce,.slice Ak JS.length ck]) (by simp[results,Tryz.results117,go_sem,r0,r1]) rfl ⟨_,_,rfl,?_,hBW⟩
     rw[hJe,ZP]
     refine⟨(HO1.out.sla (by unfold Big;omega)).up (fun b hb'=>(hKW b (by have:=hb'.1;simp only[World.size_alloc]at this;omega)).trans (hb.block b hb'.2.1)) (fun b hb'=>⟨by have:=hb'.1;simp only[World.size_alloc]at this;omega,by have:=hb'.2.1;omega⟩) (fun _ _ _ h=>h),(OwnP.sla hown (by unfold Big;omega)).up (fun b hb'=>hKW b (by have:=hb'.1;omega)) (fun b hb'=>⟨by have:=hb'.1;omega,by have:=hb'.2.1;omega⟩) ?_⟩
     intro x _ cs hx
     exact KdA.mon.up (fun b hb'=>hKW b (by have:=hb'.1;omega)) (fun b hb'=>⟨by have:=hb'.1;omega,by have:=hb'.2.1;omega⟩) hx
theorem Vy (a:Dt):a.lt a=false:=by unfold Dt.lt;simp
theorem KR {a b c:Dt}(h:a.lt b=true)(k:b.lt c=true):a.lt c=true:=by
 unfold Dt.lt at *;split at h<;>split at k<;>split<;>simp at *<;>omega
theorem YO {a b:Dt}(h:a.lt b=true):a≠b:=fun e=>by rw[e,Vy]at h;cases h
theorem Zh {x y:En}(h:x.dot=y.dot):(grtE x y).dot=x.dot:=by unfold grtE;split<;>simp[h]
theorem QZ {c:List Sp}{x e:En}:e∈stayL c x↔e=x/\cHas c x.dot=false:=by
 unfold stayL;cases cHas c x.dot<;>simp
def EntJ (ca cb:List Sp)(a b:En->Prop)(e:En):Prop:=
 (∃ x y,a x/\b y/\x.dot=y.dot/\e=grtE x y)∨(a e/\(∀ y,b y->y.dot≠e.dot)/\cHas cb e.dot=false)∨(b e/\(∀ x,a x->x.dot≠e.dot)/\cHas ca e.dot=false)
theorem QS (ca cb:List Sp):∀ (n:Nat) (a b:List En),a.length+b.length<=n->(a.Pairwise fun x y=>x.dot.lt y.dot=true)->(b.Pairwise fun x y=>x.dot.lt y.dot=true)->∀ e,e∈entL ca cb a b↔EntJ ca cb (·∈a) (·∈b) e
 |n,[],[],_,_,_,e=>by rw[entL];simp[EntJ]
 |0,x :: a,_,h,_,_,_=>by simp at h
 |0,[],y :: b,h,_,_,_=>by simp at h
 |n+1,x :: a,[],h,ha,hb,e=>by
  have h2:=QS ca cb n a [] (by simp at h ⊢;omega) ha.of_cons hb e
  rw[entL,List.mem_append,QZ,h2]
  unfold EntJ
  simp only[List.not_mem_nil,List.mem_cons]
  grind
 |n+1,[],y :: b,h,ha,hb,e=>by
  have h2:=QS ca cb n [] b (by simp at h ⊢;omega) ha hb.of_cons e
  rw[entL,List.mem_append,QZ,h2]
  unfold EntJ
  simp only[List.not_mem_nil,List.mem_cons]
  grind
 |n+1,x :: a,y :: b,h,ha,hb,e=>by
  have hxa:=(List.pairwise_cons.1 ha).1
  have hyb:=(List.pairwise_cons.1 hb).1
  rw[entL]
  cases h1:x.dot.lt y.dot
  ·cases h2:y.dot.lt x.dot
   ·have hxy:=YY h1 h2
    have h3:=QS ca cb n a b (by simp at h ⊢;omega) ha.of_cons hb.of_cons e
    have n1:∀ z∈a,z.dot≠x.dot:=fun z hz=>(YO (hxa z hz)).symm
    have n2:∀ z∈b,z.dot≠y.dot:=fun z hz=>(YO (hyb z hz)).symm
    have hg:=Zh hxy
    rw[if_neg (by simp),if_neg (by simp),List.mem_cons,h3]
    unfold EntJ
    simp only[List.mem_cons]
    grind
   ·have h3:=QS ca cb n (x :: a) b (by simp at h ⊢;omega) ha hb.of_cons e
    have n1:∀ z∈a,z.dot≠y.dot:=fun z hz=>(YO (KR h2 (hxa z hz))).symm
    have n2:∀ z∈b,z.dot≠y.dot:=fun z hz=>(YO (hyb z hz)).symm
    have n3:x.dot≠y.dot:=(YO h2).symm
    rw[if_neg (by simp),if_pos rfl,List.mem_append,QZ,h3]
    unfold EntJ
    simp only[List.mem_cons]
    grind
  ·have h3:=QS ca cb n a (y :: b) (by simp at h ⊢;omega) ha.of_cons hb e
   have n1:∀ z∈a,z.dot≠x.dot:=fun z hz=>(YO (hxa z hz)).symm
   have n2:∀ z∈b,z.dot≠x.dot:=fun z hz=>(YO (KR h1 (hyb z hz))).symm
   have n3:x.dot≠y.dot:=YO h1
   rw[if_pos rfl,List.mem_append,QZ,h3]
   unfold EntJ
   simp only[List.mem_cons]
   grind
theorem EntJ.dot {ca cb:List Sp}{a b:En->Prop}{e:En}(h:EntJ ca cb a b e):∃ z,(a z∨b z)/\z.dot=e.dot:=by
 rcases h with⟨x,y,hx,hy,hd,rfl⟩|⟨hx,_,_⟩|⟨hx,_,_⟩
 ·exact⟨x,.inl hx,(Zh hd).symm⟩
 ·exact⟨e,.inl hx,rfl⟩
 ·exact⟨e,.inr hx,rfl⟩
theorem EntJ.congr {ca cb:List Sp}{a b a' b':En->Prop}(ha:∀ e,a e↔a' e)(hb:∀ e,b e↔b' e)(e:En):EntJ ca cb a b e↔EntJ ca cb a' b' e:=by
 have h1:a=a':=funext fun e=>propext (ha e)
 have h2:b=b':=funext fun e=>propext (hb e)
 rw[h1,h2]
theorem ZJ (ca cb:List Sp):∀ (n:Nat) (a b:List En),a.length+b.length<=n->(a.Pairwise fun x y=>x.dot.lt y.dot=true)->(b.Pairwise fun x y=>x.dot.lt y.dot=true)->(entL ca cb a b).Pairwise fun x y=>x.dot.lt y.dot=true
 |n,[],[],_,_,_=>by rw[entL];exact .nil
 |0,x :: a,_,h,_,_=>by simp at h
 |0,[],y :: b,h,_,_=>by simp at h
 |n+1,x :: a,[],h,ha,hb=>by
  have h2:=ZJ ca cb n a [] (by simp at h ⊢;omega) ha.of_cons hb
  have hm:=QS ca cb _ a [] (Nat.le_refl _) ha.of_cons hb
  have hxa:=(List.pairwise_cons.1 ha).1
  rw[entL,List.pairwise_append]
  refine⟨by unfold stayL;split<;>simp,h2,fun u hu v hv=>?_⟩
  obtain⟨z,hz,hd⟩:=((hm v).1 hv).dot
  rw[(QZ.1 hu).1,←hd]
  simp at hz
  exact hxa z hz
 |n+1,[],y :: b,h,ha,hb=>by
  have h2:=ZJ ca cb n [] b (by simp at h ⊢;omega) ha hb.of_cons
  have hm:=QS ca cb _ [] b (Nat.le_refl _) ha hb.of_cons
  have hxa:=(List.pairwise_cons.1 hb).1
  rw[entL,List.pairwise_append]
  refine⟨by unfold stayL;split<;>simp,h2,fun u hu v hv=>?_⟩
  obtain⟨z,hz,hd⟩:=((hm v).1 hv).dot
  rw[(QZ.1 hu).1,←hd]
  simp at hz
  exact hxa z hz
 |n+1,x :: a,y :: b,h,ha,hb=>by
  have hxa:=(List.pairwise_cons.1 ha).1
  have hyb:=(List.pairwise_cons.1 hb).1
  rw[entL]
  cases h1:x.dot.lt y.dot
  ·cases h2:y.dot.lt x.dot
   ·have hxy:=YY h1 h2
    have h3:=ZJ ca cb n a b (by simp at h ⊢;omega) ha.of_cons hb.of_cons
    have hm:=QS ca cb _ a b (Nat.le_refl _) ha.of_cons hb.of_cons
    rw[if_neg (by simp),if_neg (by simp),List.pairwise_cons]
    refine⟨fun v hv=>?_,h3⟩
    obtain⟨z,hz,hd⟩:=((hm v).1 hv).dot
    rw[Zh hxy,←hd]
    rcases hz with hz|hz
    ·exact hxa z hz
    ·rw[hxy];exact hyb z hz
   ·have h3:=ZJ ca cb n (x :: a) b (by simp at h ⊢;omega) ha hb.of_cons
    have hm:=QS ca cb _ (x :: a) b (Nat.le_refl _) ha hb.of_cons
    rw[if_neg (by simp),if_pos rfl,List.pairwise_append]
    refine⟨by unfold stayL;split<;>simp,h3,fun u hu v hv=>?_⟩
    obtain⟨z,hz,hd⟩:=((hm v).1 hv).dot
    rw[(QZ.1 hu).1,←hd]
    rcases hz with hz|hz
    ·rcases List.mem_cons.1 hz with rfl|hz
     ·exact h2
     ·exact KR h2 (hxa z hz)
    ·exact hyb z hz
  ·have h3:=ZJ ca cb n a (y :: b) (by simp at h ⊢;omega) ha.of_cons hb
   have hm:=QS ca cb _ a (y :: b) (Nat.le_refl _) ha.of_cons hb
   rw[if_pos rfl,List.pairwise_append]
   refine⟨by unfold stayL;split<;>simp,h3,fun u hu v hv=>?_⟩
   obtain⟨z,hz,hd⟩:=((hm v).1 hv).dot
   rw[(QZ.1 hu).1,←hd]
   rcases hz with hz|hz
   ·exact hxa z hz
   ·rcases List.mem_cons.1 hz with rfl|hz
    ·exact h1
    ·exact KR h1 (hyb z hz)
theorem Yg {f:ByteArray->Tr}{l:List ByteArray}{k:ByteArray}{t:Tr}:(k,t)∈l.flatMap (joinF f)↔k∈l/\(f k).empty=false/\t=f k:=by
 rw[List.mem_flatMap]
 constructor
 ·rintro⟨q,hq,h⟩
  unfold joinF at h
  split at h
  ·cases h
  ·rename_i hn
   simp at h
   obtain⟨rfl,rfl⟩:=h
   exact⟨hq,by simpa using hn,rfl⟩
 ·rintro⟨hk,he,rfl⟩
  exact⟨k,hk,by unfold joinF;rw[he];simp⟩
theorem Xw {f:ByteArray->Tr}:∀ {l:List ByteArray},(l.Pairwise fun a b=>ltS a b=true)->(l.flatMap (joinF f)).Pairwise fun a b=>ltS a.1 b.1=true
 |[],_=>.nil
 |k :: l,h=>by
  obtain⟨h1,h2⟩:=List.pairwise_cons.1 h
  rw[List.flatMap_cons,List.pairwise_append]
  refine⟨by unfold joinF;split<;>simp,Xw h2,fun u hu v hv=>?_⟩
  have hu1:u.1=k:=by unfold joinF at hu;split at hu<;>simp at hu;rw[hu]
  rw[hu1]
  obtain⟨v1,v2⟩:=v
  exact h1 v1 (Yg.1 hv).1
theorem Xx (a b:Tr):((joinK a b).Pairwise fun x y=>ltS x y=true)/\∀ k,k∈joinK a b↔∃ t,(k,t)∈a.ks∨(k,t)∈b.ks:=by
 unfold joinK
 rw[sd_eq]
 obtain⟨h1,h2⟩:=KQ ((a.ks++b.ks).map (·.1))
 refine⟨h1,fun k=>(h2 k).trans ?_⟩
 rw[List.mem_map]
 constructor
 ·rintro⟨⟨q,t⟩,hm,rfl⟩;exact⟨t,List.mem_append.1 hm⟩
 ·rintro⟨t,hm⟩;exact⟨(k,t),List.mem_append.2 hm,rfl⟩
theorem qQq {t:Tr}{k:ByteArray}{qs:List ByteArray}{e:En}(h:((k :: qs,e):Lf)∈t.lvs []):∃ u,(k,u)∈t.ks:=by
 obtain⟨es,ks⟩:=t
 obtain⟨u,hu,_⟩:=Qq.1 h
 exact⟨u,hu⟩
theorem qXk {t:Tr}{x:Lf}(h:x∈t.lvs []):t.empty=false:=by
 obtain⟨es,ks⟩:=t
 cases he:(Tr.mk es ks).empty
 ·rfl
 ·simp[Tr.empty]at he
  obtain⟨rfl,rfl⟩:=he
  simp[Tr.lvs,Tr.lvsL]at h
theorem Jy {t:Tr}{e:En}:(([],e):Lf)∈t.lvs []↔e∈t.es:=by obtain⟨es,ks⟩:=t;exact Q9
theorem Xy (ca cb:List Sp):∀ (n:Nat) (a b:Tr),a.Ord->b.Ord->a.dep<=n->b.dep<=n->(joinT n ca cb a b).Ord/\∀ p e,((p,e):Lf)∈(joinT n ca cb a b).lvs []↔EntJ ca cb (fun x=>((p,x):Lf)∈a.lvs []) (fun y=>((p,y):Lf)∈b.lvs []) e:=by
 intro n
 induction n with
 |zero=>intro a b _ _ h _;have:=Y8 a;omega
 |succ n ih=>
 intro a b ha hb hda hdb
 have hih:∀ k∈joinK a b,_:=fun k hk=>ih (kidT a k) (kidT b k) (ZE ha k) (ZE hb k) (ZI ha hda (ZA hda hdb hk) k) (ZI hb hdb (ZA hda hdb hk) k)
 obtain⟨hk1,hk2⟩:=Xx a b
 have hsa:a.es.Pairwise fun x y=>x.dot.lt y.dot=true:=by obtain⟨es,ks⟩:=a;exact (QV.1 ha).1
 have hsb:b.es.Pairwise fun x y=>x.dot.lt y.dot=true:=by obtain⟨es,ks⟩:=b;exact (QV.1 hb).1
 rw[joinT]
 refine⟨Ord.mk' (ZJ ca cb _ _ _ (Nat.le_refl _) hsa hsb) (Xw hk1) fun k t hm=>?_,?_⟩
 ·obtain⟨hk,he,rfl⟩:=Yg.1 hm
  refine⟨?_,he,(hih k hk).1⟩
  obtain⟨u,h|h⟩:=(hk2 k).1 hk
  ·obtain⟨es,ks⟩:=a;exact ((QV.1 ha).2.2 k u h).1
  ·obtain⟨es,ks⟩:=b;exact ((QV.1 hb).2.2 k u h).1
 ·intro p e
  match p with
  |[]=>
   rw[Q9,QS ca cb _ _ _ (Nat.le_refl _) hsa hsb]
   exact EntJ.congr (fun x=>Jy.symm) (fun x=>Jy.symm) e
  |k :: qs=>
   rw[Qq]
   have hc:EntJ ca cb (fun x=>((k :: qs,x):Lf)∈a.lvs []) (fun y=>((k :: qs,y):Lf)∈b.lvs []) e↔EntJ ca cb (fun x=>((qs,x):Lf)∈(kidT a k).lvs []) (fun y=>((qs,y):Lf)∈(kidT b k).lvs []) e:=EntJ.congr (fun x=>(KD ha).symm) (fun x=>(KD hb).symm) e
   constructor
   ·rintro⟨t,hm,hx⟩
    obtain⟨hk,he,rfl⟩:=Yg.1 hm
    exact hc.2 (((hih k hk).2 qs e).1 hx)
   ·intro hx
    have hk:k∈joinK a b:=by
     obtain⟨z,hz,_⟩:=hx.dot
     rcases hz with hz|hz
     ·obtain⟨u,hu⟩:=qQq hz;exact (hk2 k).2 ⟨u,.inl hu⟩
     ·obtain⟨u,hu⟩:=qQq hz;exact (hk2 k).2 ⟨u,.inr hu⟩
    have hy:=((hih k hk).2 qs e).2 (hc.1 hx)
    exact⟨_,Yg.2 ⟨hk,qXk hy,rfl⟩,hy⟩
def gtE (y x:En):Bool:=decide (x.v<y.v)||(decide (y.v=x.v)&&ltS x.s y.s)
theorem Zi (x y:En):grtE x y=if gtE y x then y else x:=by
 unfold grtE gtE
 rcases Int.lt_trichotomy x.v y.v with h|h|h
 ·have e1:cmpI x.v y.v=-1:=if_pos h
  rw[e1];simp[orI,h]
 ·have e1:cmpI x.v y.v=0:=by unfold cmpI;rw[if_neg (by omega),if_neg (by omega)]
  rw[e1]
  unfold orI cmpS
  cases h1:ltS x.s y.s
  ·cases h2:ltS y.s x.s<;>simp[h]
  ·simp[h]
 ·have e1:cmpI x.v y.v=1:=by unfold cmpI;rw[if_neg (by omega),if_pos h]
  rw[e1]
  have h1:¬x.v<y.v:=by omega
  have h3:¬y.v=x.v:=by omega
  simp[orI,h1,h3]
theorem Yi {c:List Sp}(h:Ql c=true)(d:Dt):cHas c d=hasC c d:=by
 unfold cHas hasC sHas
 rw[h,Bool.true_and]
 cases hd:d.right
 ·rfl
 ·have hdc:0<=d.dc/\d.dc<4:=by unfold Dt.right at hd;simp at hd;omega
  obtain⟨i,hi⟩:∃ i:Nat,(i:Int)=d.dc:=⟨d.dc.toNat,by omega⟩
  have:=Qs h (i:=i) (by omega)
  rw[hi]at this
  rw[this];rfl
end Go.Proofs.YtidebdbjekijkaaGreat
namespace Go.Proofs.YtidebdbjekijkaaGreat
open Go.RowKit Go.Sort
def cmpR (x y:Int×Int):Int:=cmpI x.1 y.1
theorem J8 (x y:Int×Int):ltOf cmpR x y=decide (x.1<y.1):=YS x.1 y.1
theorem swoR:SWO (ltOf cmpR) where
 irrefl x:=by rw[J8];simp
 trans x y z h1 h2:=by rw[J8]at *;simp at *;omega
 ntrans x y z h1 h2:=by rw[J8]at *;simp at *;omega
theorem JA (x y:Int×Int)(W:World):Calls Tryz.prog 202 #[.agg #[.int .i64 x.1,.int .i64 x.2],.agg #[.int .i64 y.1,.int .i64 y.2]] W fun e w'=>e=.returned (.int .i64 (cmpR x y))/\∃ q os',w'=grow (W.drewN q) os':=by
 go_enter Tryz.func202,Tryz.ntmps202
 go_wp2_with (go_at_call 157;refine (ZW _ _ _).mono ?_;rintro e w' ⟨rfl,rfl⟩)
 go_ret
 exact⟨rfl,0,_,by rw[alloc_eq_grow,alloc_eq_grow,grow_grow];rfl⟩
theorem qQt {l:List (Int×Int)}(h:∀ r∈l,runOk r):QT l:=fun r hr=>by
 have:=h r hr;unfold runOk at this;omega
theorem Q2:∀ (l:List (Int×Int)) (p:Option Int),runsR p l=true->∀ r∈l,runOk r
 |x :: l,p,h,r,hr=>by
  rw[Qo]at h
  rcases List.mem_cons.1 hr with rfl|hr
  ·exact h.1
  ·exact Q2 l _ h.2.2 r hr
theorem Xz {a b ts:List (Int×Int)}(ha:runsR none a=true)(hb:runsR none b=true)(hp:ts.Perm (a++b))(hs:ts.Pairwise fun x y=>x.1<=y.1):joinL ts=byL a b 0:=by
 have oa:=Q2 a none ha
 have ob:=Q2 b none hb
 have ot:∀ r∈ts,runOk r:=fun r hr=>by
  rcases List.mem_append.1 (hp.subset hr) with h|h
  ·exact oa r h
  ·exact ob r h
 obtain⟨a1,a2⟩:=Y2 ot hs
 obtain⟨b1,b2⟩:=Zz 0 oa ob
 refine ZR _ _ none none a1 b1 fun n=>?_
 rw[a2,b2]
 have:hasL ts n=hasL (a++b) n:=by
  unfold hasL
  rw[Bool.eq_iff_iff,List.any_eq_true,List.any_eq_true]
  exact⟨fun ⟨r,h1,h2⟩=>⟨r,hp.subset h1,h2⟩,fun ⟨r,h1,h2⟩=>⟨r,hp.symm.subset h1,h2⟩⟩
 rw[this,Zf]
 simp[inn]
theorem JB (a b:List (Int×Int))(va vb:Value)(w:World)(ha:SlP w w.heap.size 2 RuE va a)(hb:SlP w w.heap.size 2 RuE vb b) :
  Calls Tryz.prog 179 #[va,vb] w fun e w'=>e=.returned (.bool (runsR none a&&runsR none b))/\Below w.heap.size w w':=by
 have HB:=hid hb
 go_enter Tryz.func179,Tryz.ntmps179
 go_wp2_with fail
 refine (Zm a va w ha).mono ?_
 rintro e w1 ⟨rfl,hb1⟩
 have hs1:=hb1.size
 cases hr:runsR none a
 ·have HR:=hid hr
  clear hr
  go_wp2_with fail
  go_ret
  exact⟨Qd (by rw[HR.out];rfl),hb1⟩
 ·have HR:=hid hr
  clear hr
  go_wp2_with fail
  refine (Zm b vb w1 (HB.out.imp hb1 hs1 fun _ _ _ h=>h)).mono ?_
  rintro e w2 ⟨rfl,hb2⟩
  go_wp2_with fail
  go_ret
  exact⟨Qd (by rw[HR.out];rfl),hb1.trans (hb2.mono hs1)⟩
theorem Vz (a b:List (Int×Int))(va vb:Value)(w:World)(ha:SlP w w.heap.size 2 RuE va a)(hb:SlP w w.heap.size 2 RuE vb b)(hra:runsR none a=true)(hrb:runsR none b=true)(hN:a.length<=300000)(hN':b.length<=300000) :
  Calls Tryz.prog 163 #[va,vb] w (RetO w 181 2 (fun _=>RuE) (byL a b 0)):=by
 have HA:=hid ha
 have HB:=hid hb
 have HRA:=hid hra
 have HRB:=hid hrb
 have hor:QT (a++b):=qQt fun r hr=>by
  rcases List.mem_append.1 hr with h|h
  ·exact Q2 a none hra r h
  ·exact Q2 b none hrb r h
 have HOR:=hid hor
 obtain⟨A1,c1,rfl,_⟩:=ha
 obtain⟨A2,c2,rfl,_⟩:=hb
 clear hra hrb hor
 go_enter Tryz.func163,Tryz.ntmps163
 go_wp2_with fail
 refine (JB a b _ _ w HA.out HB.out).mono ?_
 rw[HRA.out,HRB.out]
 rintro e w1 ⟨rfl,hb1⟩
 have hs1:=hb1.size
 go_wp2_with fail
 refine (Vn a b (.slice A1 a.length c1) (.slice A2 b.length c2) w1.heap.size _ (by simp) (by simp) (by simp) (HA.out.imp (hb1.alloc hs1 _) (by simp;omega) fun _ _ _ h=>h) (HB.out.imp (hb1.alloc hs1 _) (by simp;omega) fun _ _ _ h=>h) hN hN').mono ?_
 rintro e w2 ⟨v2,rfl,ho2,hb2⟩
 have hs2:=hb2.size
 simp only[World.size_alloc]at hs2
 have hB2:Below w.heap.size w w2:=(hb1.alloc hs1 _).trans (hb2.mono (by simp;omega))
 have ho2':OwnP w2 (w1.heap.size+1) 181 2 RuE v2 ((a++b).map id):=by rw[List.map_id];exact ho2.mono (by simp)
 go_wp2_with fail
 refine (Y0 id cmpR swoR 202 (enters_of Tryz.func202 (by kernel_rfl) rfl) (fun x y W=>JA x y W) (a++b) v2 w2 _ ho2' (by simp;omega) hs2).mono ?_
 rintro e w3 ⟨rfl,ts,hp,hs,ho3,hb3⟩
 rw[List.map_id]at ho3
 have hs3:=hb3.size
 have hJ:=Xz HRA.out HRB.out hp (hs.imp fun h=>(Y4 _ _).1 h)
 have HJ:=hid hJ
 have hlen:ts.length=a.length+b.length:=by rw[hp.length_eq,List.length_append]
 have hsl:=ho3.sl (by rw[hlen];unfold Big;omega)
 have HSL:=hid hsl
 have HTR:Hid (QT ts):=fun r hr=>HOR.out r (hp.subset hr)
 have hl3:ts.length<=900000:=by omega
 clear hp hs ho3 hJ hsl ho2 ho2' hlen
 go_wp2_with fail
 refine (Y3 ts _ w3 HSL.out hl3 HTR.out).mono ?_
 rintro e w4 ⟨v4,rfl,ho4,hb4⟩
 rw[HJ.out]at ho4
 go_wp2_with fail
 go_ret
 exact⟨_,rfl,ho4.mono (by omega),(hB2.trans (hb3.mono (by omega))).trans (hb4.mono (by omega))⟩
end Go.Proofs.YtidebdbjekijkaaGreat
