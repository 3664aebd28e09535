/- What the laws need. No condition but those that each lemma states. -/
import Derived.Deep.LoopGhost
import Derived.Test.YtbcoelggdikipaaGreatUw1
import Derived.Test.YtbcoelggdikipaaGreatUw2
import Derived.Test.YtbcoelggdikipaaGreatUw3
set_option maxRecDepth 100000
set_option maxHeartbeats 8000000
set_option linter.unusedSimpArgs false
namespace Go.Proofs.YtbcoelggdikipaaGreat
open Go.RowKit
def inn (how:Int)(p q:Bool):Bool:=if how=2 then p&&!q else if how=1 then p&&q else p||q
def byOut (out:List (Int×Int))(at' to':Int):List (Int×Int):=
 match out.getLast? with
 |some r=>if r.2=at'-1 then out.set (out.length-1) (r.1,to'-1) else out++[(at',to'-1)]
 |none=>[(at',to'-1)]
def byGo (a b:List (Int×Int))(how:Int)(ps:List Int):Nat->Int×Bool->List (Int×Int)->List (Int×Int)
 |0,_,out=>out
 |n+1,s,out=>if s.2 then byGo a b how ps n (nextL ps s.1) (if inn how (hasL a s.1) (hasL b s.1) then byOut out s.1 (nextL ps s.1).1 else out) else out
def byL (a b:List (Int×Int))(how:Int):List (Int×Int):=byGo a b how (endsL a++endsL b) ((endsL a++endsL b).length+1) (nextL (endsL a++endsL b) 0) []
def cnt (ps:List Int)(x:Int):Nat:=(ps.filter fun y=>decide (x<=y)).length
theorem X2 (a b:List (Int×Int))(how:Int)(ps:List Int)(n:Nat)(x:Int)(out:List (Int×Int)):byGo a b how ps n (x,false) out=out:=by
 cases n<;>simp[byGo]
theorem Xl:∀ (l:List Int) (above:Int) (s:Int×Bool),(s.2=true->above<s.1)->(l.foldl (nextS above) s=s∨(l.foldl (nextS above) s).1∈l)/\((l.foldl (nextS above) s).2=true->above<(l.foldl (nextS above) s).1)
 |[],_,s,hs=>⟨.inl rfl,hs⟩
 |x :: l,above,s,hs=>by
  simp only[List.foldl_cons]
  by_cases hc:above<x/\(s.2=false∨x<s.1)
  ·have e:nextS above s x=(x,true):=by simp[nextS,hc]
   rw[e]
   obtain⟨h1,h2⟩:=Xl l above (x,true) (fun _=>hc.1)
   refine⟨.inr ?_,h2⟩
   rcases h1 with h1|h1
   ·rw[h1];simp
   ·exact List.mem_cons_of_mem _ h1
  ·have e:nextS above s x=s:=by simp only[nextS,if_neg hc]
   rw[e]
   obtain⟨h1,h2⟩:=Xl l above s hs
   refine⟨?_,h2⟩
   rcases h1 with h1|h1
   ·exact .inl h1
   ·exact .inr (List.mem_cons_of_mem _ h1)
theorem Q6 {l:List Int}{above:Int}(h:(nextL l above).2=true):(nextL l above).1∈l/\above<(nextL l above).1:=by
 obtain⟨h1,h2⟩:=Xl l above (0,false) (fun h=>by cases h)
 refine⟨?_,h2 h⟩
 rcases h1 with h1|h1
 ·unfold nextL at h;rw[h1]at h;cases h
 ·exact h1
theorem qXo {l:List Int}{above lo hi:Int}(hl:∀ x∈l,lo<=x/\x<=hi)(h0:lo<=0)(h1:0<=hi):lo<=(nextL l above).1/\(nextL l above).1<=hi:=by
 obtain⟨h2,_⟩:=Xl l above (0,false) (fun h=>by cases h)
 rcases h2 with h2|h2
 ·unfold nextL;rw[h2];exact⟨h0,h1⟩
 ·exact hl _ h2
theorem qXp {l:List Int}{x y:Int}(hx:x∈l)(h:x<y):cnt l y<cnt l x:=by
 unfold cnt
 induction l with
 |nil=>cases hx
 |cons z l ih=>
  have hle:(l.filter fun u=>decide (y<=u)).length<=(l.filter fun u=>decide (x<=u)).length:=by
   clear ih hx
   induction l with
   |nil=>simp
   |cons u l ih=>
    simp only[List.filter_cons]
    by_cases h1:y<=u
    ·have:x<=u:=by omega
     simp[h1,this];exact ih
    ·by_cases h2:x<=u
     ·simp[h1,h2];omega
     ·simp[h1,h2];exact ih
  simp only[List.filter_cons]
  rcases List.mem_cons.1 hx with rfl|hx
  ·have:¬y<=x:=by omega
   simp[this];omega
  ·have:=ih hx
   by_cases h1:y<=z
   ·have:x<=z:=by omega
    simp[h1,this];omega
   ·by_cases h2:x<=z
    ·simp[h1,h2];omega
    ·simp[h1,h2];omega
theorem qK2 {l:List Int}{x:Int}(hx:x∈l):0<cnt l x:=by
 unfold cnt;exact List.length_pos_of_mem (List.mem_filter.2 ⟨hx,by simp⟩)
theorem qXq (l:List Int)(x:Int):cnt l x<=l.length:=List.length_filter_le _ _
theorem qXr {l:List (Int×Int)}(h:Zg l):∀ x∈endsL l,0<=x/\x<=1099511627778:=fun x hx=>by
 unfold endsL at hx
 obtain⟨r,hr,hx⟩:=List.mem_flatMap.1 hx
 have:=h r hr
 simp at hx
 omega
theorem Xm (l:List (Int×Int)):(endsL l).length=2*l.length:=by
 unfold endsL;rw[List.length_flatMap];simp[List.map_const'];omega
theorem qK3 (a b:List (Int×Int))(how:Int)(va vb:Value)(w:World)(ha:SlP w w.heap.size 2 RuE va a)(hb:SlP w w.heap.size 2 RuE vb b)(hN:a.length<=100000)(hN':b.length<=100000)(hR:Zg a)(hR':Zg b)(hh:how=0∨how=1∨how=2) :
  Calls Tryz.prog 163 #[va,vb,.int .i64 how] w (RetO w 166 2 (fun _=>RuE) (byL a b how)):=by
 have hps:∀ x∈endsL a++endsL b,0<=x/\x<=1099511627778:=fun x hx=>by
  rcases List.mem_append.1 hx with h|h
  ·exact qXr hR x h
  ·exact qXr hR' x h
 have hla:=Xm a
 have hlb:=Xm b
 have HLE:Hid ((endsL a).length+(endsL b).length<=Few):=by unfold Hid Few;omega
 have hpl:Hid ((endsL a++endsL b).length<=400000):=by unfold Hid;simp;omega
 clear hla hlb
 go_enter Tryz.func163,Tryz.ntmps163
 go_wp2_with fail
 refine (JI a va _ ha (by omega) hR).mono ?_
 rintro e w1 ⟨v1,rfl,ho1,hb1⟩
 have hs1:=hb1.size
 go_wp2_with fail
 refine (JI b vb _ (hb.imp hb1 hs1 fun _ _ _ h=>h) (by omega) hR').mono ?_
 rintro e w2 ⟨v2,rfl,ho2,hb2⟩
 have hs2:=hb2.size
 go_wp2_with (at_builtin;refine Qk rfl (.tmp 17) (.tmp 19) _ rfl Vk (by decide) (by decide) (fun _ _ h=>h.one) rfl (ho1.grow hb2) rfl (ho2.sl (by have:=HLE.out;unfold Few at this;unfold Big;omega)) HLE.out (by omega) ?_;intro vp w3 ho3 hb3 _)
 have hB3:Below w.heap.size w w3:=(hb1.trans (hb2.mono hs1)).trans hb3
 have hs3:=hb3.size
 have hby:byL a b how=byGo a b how (endsL a++endsL b) ((endsL a++endsL b).length+1) (nextL (endsL a++endsL b) 0) []:=rfl
 generalize hpsd:endsL a++endsL b=ps at *
 have hsp:=ho3.sl (by have:=hpl.out;unfold Big;omega)
 have HY:=hid hby
 have ha3:=ha.imp hB3 (by omega:w.heap.size<=w3.heap.size) fun _ _ _ h=>h
 have hb3':=hb.imp hB3 (by omega:w.heap.size<=w3.heap.size) fun _ _ _ h=>h
 have hbd:∀ x,0<=(nextL ps x).1/\(nextL ps x).1<=1099511627778:=fun x=>qXo hps (by omega) (by omega)
 have HM:∀ x,x∈ps->∀ n,(cnt ps x<=n+1)->(nextL ps x).2=true->(nextL ps x).1∈ps/\cnt ps (nextL ps x).1<=n:=fun x hx n hc h=>⟨(Q6 h).1,by have:=qXp hx (Q6 h).2;omega⟩
 have HM0:(nextL ps 0).2=true->(nextL ps 0).1∈ps/\cnt ps (nextL ps 0).1<=ps.length+1:=fun h=>⟨(Q6 h).1,by have:=qXq ps (nextL ps 0).1;omega⟩
 clear hby hps ho1 ho2 hpsd HLE ho3
 have HBD:=hid hbd
 have HMH:=hid HM
 have HM0H:=hid HM0
 clear hbd HM HM0
 refine (Zi ps 0 vp w3 _ hsp).mono ?_
 rintro e wx ⟨rfl,rfl⟩
 go_wp2_with fail
 go_loopg [8,9,10] (ps.length+1) (fun n vo vx vk wr=>∃ (outL:List (Int×Int)) (x:Int) (k:Bool),OwnP wr w3.heap.size 166 2 RuE vo outL/\vx=.int .i64 x/\vk=.bool k/\0<=x/\x<=1099511627778/\Below w3.heap.size w3 wr /\
  Hid (byGo a b how ps n (x,k) outL=byL a b how)/\Hid (k=true->x∈ps/\cnt ps x<=n)/\Hid (outL.length+n<=ps.length+1))
 case atStart=>exact⟨[],_,_,OwnP.nil,rfl,rfl,(HBD.out 0).1,(HBD.out 0).2,Below.refl _ _,HY.out.symm,HM0H.out,by unfold Hid;simp⟩
 case round=>
  obtain⟨outL,x,k,hown,rfl,rfl,hx0,hx1,hbr,hrel,hmem,hlen⟩:=hrel
  have hsz:=hbr.size
  cases k
  ·have hr:=hrel.out
   rw[X2]at hr
   have HR:=hid hr
   clear hr
   go_wp2_with fail
   go_ret
   exact⟨_,rfl,by rw[←HR.out];exact hown.mono (by omega),hB3.trans (hbr.mono (by omega))⟩
  ·obtain⟨n,rfl⟩:∃ n,gk=n+1:=⟨gk-1,by have:=hmem.out rfl;have:=qK2 this.1;omega⟩
   have HMM:=hid (hmem.out rfl)
   have HI:Hid (byGo a b how ps n (nextL ps x) (if inn how (hasL a x) (hasL b x) then byOut outL x (nextL ps x).1 else outL)=byL a b how):=hrel.out
   have har:=ha3.imp hbr (Nat.le_refl _) fun _ _ _ h=>h
   have hbr':=hb3'.imp hbr (Nat.le_refl _) fun _ _ _ h=>h
   have hpr:=hsp.imp hbr (Nat.le_refl _) fun _ _ _ h=>h
   have hn0:=(HBD.out x).1
   have hn1:=(HBD.out x).2
   go_wp2_with fail
   refine (Zi ps x vp _ _ hpr).mono ?_
   rintro e wx ⟨rfl,rfl⟩
   go_wp2_with fail
   refine (X1 a x va _ _ har).mono ?_
   rintro e wx ⟨rfl,rfl⟩
   go_wp2_with fail
   refine (X1 b x vb _ _ hbr').mono ?_
   rintro e wx ⟨rfl,rfl⟩
   go_upto_region 7 with (fail)
   have JN:Hid (RuE (x,(nextL ps x).1-1) [.int .i64 x,.int .i64 ((nextL ps x).1-1)]):=⟨rfl,⟨by omega,by omega⟩,⟨by show _<=(nextL ps x).1-1;omega,by show (nextL ps x).1-1<=_;omega⟩⟩
   have HNX:Hid ((nextL ps x).2=true->(nextL ps x).1∈ps/\cnt ps (nextL ps x).1<=n):=fun h=>HMH.out x HMM.out.1 n HMM.out.2 h
   have HL:Hid (outL.length + [(x,(nextL ps x).1-1)].length<=Few):=by have:=hlen.out;have:=hpl.out;unfold Hid Few;simp;omega
   have hob:outL.length<=400001:=by have:=hlen.out;have:=hpl.out;omega
   generalize hasL a x=p at *
   generalize hasL b x=q at *
   cases p<;>cases q<;>rcases hh with rfl|rfl|rfl
   ·go_wp2_with fail
    go_roundg n
    case measure=>omega
    case rel=>exact⟨outL,_,_,hown,rfl,rfl,HBD.out x |>.1,HBD.out x |>.2,hbr,by have:=HI.out;rw[if_neg (by decide)]at this;exact this,HNX.out,by have:=hlen.out;unfold Hid;omega⟩
   ·go_wp2_with fail
    go_roundg n
    case measure=>omega
    case rel=>exact⟨outL,_,_,hown,rfl,rfl,HBD.out x |>.1,HBD.out x |>.2,hbr,by have:=HI.out;rw[if_neg (by decide)]at this;exact this,HNX.out,by have:=hlen.out;unfold Hid;omega⟩
   ·go_wp2_with fail
    go_roundg n
    case measure=>omega
    case rel=>exact⟨outL,_,_,hown,rfl,rfl,HBD.out x |>.1,HBD.out x |>.2,hbr,by have:=HI.out;rw[if_neg (by decide)]at this;exact this,HNX.out,by have:=hlen.out;unfold Hid;omega⟩
   ·rcases Nat.eq_zero_or_pos outL.length with hz|hz
    ·obtain rfl:outL=[]:=List.eq_nil_of_length_eq_zero hz
     have HO:Hid (byOut [] x (nextL ps x).1=[]++[(x,(nextL ps x).1-1)]):=rfl
     obtain⟨A8,c8,rfl⟩:=hown.shape
     clear hz
     simp only[List.length_nil]at hown HL ⊢
     go_wp2_with (at_builtin;with_reducible refine Qk rfl (.tmp 83) (.tmp 88) _ rfl Yc (by decide) (by decide) (fun _ _ h=>h.one) rfl (hown.alloc _) rfl (SlP.one (x:=(x,(nextL ps x).1-1)) JN.out rfl _ rfl) HL.out (by rw[World.size_alloc];omega) ?_;intro v1 w1 hown1 hb1 _)
     go_roundg n
     case measure=>omega
     case rel=>exact⟨[]++[(x,(nextL ps x).1-1)],_,_,hown1,rfl,rfl,HBD.out x |>.1,HBD.out x |>.2,(hbr.alloc hsz _).trans hb1,by have:=HI.out;rw[if_pos (by decide),HO.out]at this;exact this,HNX.out,by have:=hlen.out;unfold Hid;simp at this ⊢;omega⟩
    obtain⟨r,hr⟩:∃ r,outL[outL.length-1]?=some r:=⟨_,List.getElem?_eq_getElem (by omega)⟩
    obtain⟨g,cap,rfl,hg1,hg2,c0,c1,hfz,hset⟩:=hown.setRun hr (z:=(nextL ps x).1-1) ⟨by omega,by omega⟩
    have hfz1:=hfz ((outL.length-1)*2+1)
    have HBO:Hid (byOut outL x (nextL ps x).1=if r.2=x-1 then outL.set (outL.length-1) (r.1,(nextL ps x).1-1) else outL++[(x,(nextL ps x).1-1)]):=by
     unfold Hid byOut;rw[List.getLast?_eq_getElem?,hr]
    clear hr hfz
    by_cases hq:r.2=x-1
    ·have HO:Hid (byOut outL x (nextL ps x).1=outL.set (outL.length-1) (r.1,(nextL ps x).1-1)):=by unfold Hid;rw[HBO.out,if_pos hq]
     have hq':(r.2==x-1)=true:=by simpa using hq
     have HQ:=hid hq
     have HS:=hid hset
     clear hq hset
     go_wp2_with fail
     go_roundg n
     case measure=>omega
     case rel=>exact⟨outL.set (outL.length-1) (r.1,(nextL ps x).1-1),_,_,HS.out,rfl,rfl,HBD.out x |>.1,HBD.out x |>.2,hbr.setCell (by exact hg1) _,by have:=HI.out;rw[if_pos (by decide),HO.out]at this;exact this,HNX.out,by have:=hlen.out;unfold Hid;rw[List.length_set];omega⟩
    ·have HO:Hid (byOut outL x (nextL ps x).1=outL++[(x,(nextL ps x).1-1)]):=by unfold Hid;rw[HBO.out,if_neg hq]
     have hq':(r.2==x-1)=false:=by simpa using hq
     have HQ:=hid hq
     clear hq hset
     go_wp2_with (at_builtin;with_reducible refine Qk rfl (.tmp 83) (.tmp 88) _ rfl Yc (by decide) (by decide) (fun _ _ h=>h.one) rfl (hown.alloc _) rfl (SlP.one (x:=(x,(nextL ps x).1-1)) JN.out rfl _ rfl) HL.out (by rw[World.size_alloc];omega) ?_;intro v1 w1 hown1 hb1 _)
     go_roundg n
     case measure=>omega
     case rel=>exact⟨outL++[(x,(nextL ps x).1-1)],_,_,hown1,rfl,rfl,HBD.out x |>.1,HBD.out x |>.2,(hbr.alloc hsz _).trans hb1,by have:=HI.out;rw[if_pos (by decide),HO.out]at this;exact this,HNX.out,by have:=hlen.out;unfold Hid;simp;omega⟩
   ·go_wp2_with fail
    go_roundg n
    case measure=>omega
    case rel=>exact⟨outL,_,_,hown,rfl,rfl,HBD.out x |>.1,HBD.out x |>.2,hbr,by have:=HI.out;rw[if_neg (by decide)]at this;exact this,HNX.out,by have:=hlen.out;unfold Hid;omega⟩
   ·go_wp2_with fail
    go_roundg n
    case measure=>omega
    case rel=>exact⟨outL,_,_,hown,rfl,rfl,HBD.out x |>.1,HBD.out x |>.2,hbr,by have:=HI.out;rw[if_neg (by decide)]at this;exact this,HNX.out,by have:=hlen.out;unfold Hid;omega⟩
   ·rcases Nat.eq_zero_or_pos outL.length with hz|hz
    ·obtain rfl:outL=[]:=List.eq_nil_of_length_eq_zero hz
     have HO:Hid (byOut [] x (nextL ps x).1=[]++[(x,(nextL ps x).1-1)]):=rfl
     obtain⟨A8,c8,rfl⟩:=hown.shape
     clear hz
     simp only[List.length_nil]at hown HL ⊢
     go_wp2_with (at_builtin;with_reducible refine Qk rfl (.tmp 83) (.tmp 88) _ rfl Yc (by decide) (by decide) (fun _ _ h=>h.one) rfl (hown.alloc _) rfl (SlP.one (x:=(x,(nextL ps x).1-1)) JN.out rfl _ rfl) HL.out (by rw[World.size_alloc];omega) ?_;intro v1 w1 hown1 hb1 _)
     go_roundg n
     case measure=>omega
     case rel=>exact⟨[]++[(x,(nextL ps x).1-1)],_,_,hown1,rfl,rfl,HBD.out x |>.1,HBD.out x |>.2,(hbr.alloc hsz _).trans hb1,by have:=HI.out;rw[if_pos (by decide),HO.out]at this;exact this,HNX.out,by have:=hlen.out;unfold Hid;simp at this ⊢;omega⟩
    obtain⟨r,hr⟩:∃ r,outL[outL.length-1]?=some r:=⟨_,List.getElem?_eq_getElem (by omega)⟩
    obtain⟨g,cap,rfl,hg1,hg2,c0,c1,hfz,hset⟩:=hown.setRun hr (z:=(nextL ps x).1-1) ⟨by omega,by omega⟩
    have hfz1:=hfz ((outL.length-1)*2+1)
    have HBO:Hid (byOut outL x (nextL ps x).1=if r.2=x-1 then outL.set (outL.length-1) (r.1,(nextL ps x).1-1) else outL++[(x,(nextL ps x).1-1)]):=by
     unfold Hid byOut;rw[List.getLast?_eq_getElem?,hr]
    clear hr hfz
    by_cases hq:r.2=x-1
    ·have HO:Hid (byOut outL x (nextL ps x).1=outL.set (outL.length-1) (r.1,(nextL ps x).1-1)):=by unfold Hid;rw[HBO.out,if_pos hq]
     have hq':(r.2==x-1)=true:=by simpa using hq
     have HQ:=hid hq
     have HS:=hid hset
     clear hq hset
     go_wp2_with fail
     go_roundg n
     case measure=>omega
     case rel=>exact⟨outL.set (outL.length-1) (r.1,(nextL ps x).1-1),_,_,HS.out,rfl,rfl,HBD.out x |>.1,HBD.out x |>.2,hbr.setCell (by exact hg1) _,by have:=HI.out;rw[if_pos (by decide),HO.out]at this;exact this,HNX.out,by have:=hlen.out;unfold Hid;rw[List.length_set];omega⟩
    ·have HO:Hid (byOut outL x (nextL ps x).1=outL++[(x,(nextL ps x).1-1)]):=by unfold Hid;rw[HBO.out,if_neg hq]
     have hq':(r.2==x-1)=false:=by simpa using hq
     have HQ:=hid hq
     clear hq hset
     go_wp2_with (at_builtin;with_reducible refine Qk rfl (.tmp 83) (.tmp 88) _ rfl Yc (by decide) (by decide) (fun _ _ h=>h.one) rfl (hown.alloc _) rfl (SlP.one (x:=(x,(nextL ps x).1-1)) JN.out rfl _ rfl) HL.out (by rw[World.size_alloc];omega) ?_;intro v1 w1 hown1 hb1 _)
     go_roundg n
     case measure=>omega
     case rel=>exact⟨outL++[(x,(nextL ps x).1-1)],_,_,hown1,rfl,rfl,HBD.out x |>.1,HBD.out x |>.2,(hbr.alloc hsz _).trans hb1,by have:=HI.out;rw[if_pos (by decide),HO.out]at this;exact this,HNX.out,by have:=hlen.out;unfold Hid;simp;omega⟩
   ·go_wp2_with fail
    go_roundg n
    case measure=>omega
    case rel=>exact⟨outL,_,_,hown,rfl,rfl,HBD.out x |>.1,HBD.out x |>.2,hbr,by have:=HI.out;rw[if_neg (by decide)]at this;exact this,HNX.out,by have:=hlen.out;unfold Hid;omega⟩
   ·rcases Nat.eq_zero_or_pos outL.length with hz|hz
    ·obtain rfl:outL=[]:=List.eq_nil_of_length_eq_zero hz
     have HO:Hid (byOut [] x (nextL ps x).1=[]++[(x,(nextL ps x).1-1)]):=rfl
     obtain⟨A8,c8,rfl⟩:=hown.shape
     clear hz
     simp only[List.length_nil]at hown HL ⊢
     go_wp2_with (at_builtin;with_reducible refine Qk rfl (.tmp 83) (.tmp 88) _ rfl Yc (by decide) (by decide) (fun _ _ h=>h.one) rfl (hown.alloc _) rfl (SlP.one (x:=(x,(nextL ps x).1-1)) JN.out rfl _ rfl) HL.out (by rw[World.size_alloc];omega) ?_;intro v1 w1 hown1 hb1 _)
     go_roundg n
     case measure=>omega
     case rel=>exact⟨[]++[(x,(nextL ps x).1-1)],_,_,hown1,rfl,rfl,HBD.out x |>.1,HBD.out x |>.2,(hbr.alloc hsz _).trans hb1,by have:=HI.out;rw[if_pos (by decide),HO.out]at this;exact this,HNX.out,by have:=hlen.out;unfold Hid;simp at this ⊢;omega⟩
    obtain⟨r,hr⟩:∃ r,outL[outL.length-1]?=some r:=⟨_,List.getElem?_eq_getElem (by omega)⟩
    obtain⟨g,cap,rfl,hg1,hg2,c0,c1,hfz,hset⟩:=hown.setRun hr (z:=(nextL ps x).1-1) ⟨by omega,by omega⟩
    have hfz1:=hfz ((outL.length-1)*2+1)
    have HBO:Hid (byOut outL x (nextL ps x).1=if r.2=x-1 then outL.set (outL.length-1) (r.1,(nextL ps x).1-1) else outL++[(x,(nextL ps x).1-1)]):=by
     unfold Hid byOut;rw[List.getLast?_eq_getElem?,hr]
    clear hr hfz
    by_cases hq:r.2=x-1
    ·have HO:Hid (byOut outL x (nextL ps x).1=outL.set (outL.length-1) (r.1,(nextL ps x).1-1)):=by unfold Hid;rw[HBO.out,if_pos hq]
     have hq':(r.2==x-1)=true:=by simpa using hq
     have HQ:=hid hq
     have HS:=hid hset
     clear hq hset
     go_wp2_with fail
     go_roundg n
     case measure=>omega
     case rel=>exact⟨outL.set (outL.length-1) (r.1,(nextL ps x).1-1),_,_,HS.out,rfl,rfl,HBD.out x |>.1,HBD.out x |>.2,hbr.setCell (by exact hg1) _,by have:=HI.out;rw[if_pos (by decide),HO.out]at this;exact this,HNX.out,by have:=hlen.out;unfold Hid;rw[List.length_set];omega⟩
    ·have HO:Hid (byOut outL x (nextL ps x).1=outL++[(x,(nextL ps x).1-1)]):=by unfold Hid;rw[HBO.out,if_neg hq]
     have hq':(r.2==x-1)=false:=by simpa using hq
     have HQ:=hid hq
     clear hq hset
     go_wp2_with (at_builtin;with_reducible refine Qk rfl (.tmp 83) (.tmp 88) _ rfl Yc (by decide) (by decide) (fun _ _ h=>h.one) rfl (hown.alloc _) rfl (SlP.one (x:=(x,(nextL ps x).1-1)) JN.out rfl _ rfl) HL.out (by rw[World.size_alloc];omega) ?_;intro v1 w1 hown1 hb1 _)
     go_roundg n
     case measure=>omega
     case rel=>exact⟨outL++[(x,(nextL ps x).1-1)],_,_,hown1,rfl,rfl,HBD.out x |>.1,HBD.out x |>.2,(hbr.alloc hsz _).trans hb1,by have:=HI.out;rw[if_pos (by decide),HO.out]at this;exact this,HNX.out,by have:=hlen.out;unfold Hid;simp;omega⟩
   ·rcases Nat.eq_zero_or_pos outL.length with hz|hz
    ·obtain rfl:outL=[]:=List.eq_nil_of_length_eq_zero hz
     have HO:Hid (byOut [] x (nextL ps x).1=[]++[(x,(nextL ps x).1-1)]):=rfl
     obtain⟨A8,c8,rfl⟩:=hown.shape
     clear hz
     simp only[List.length_nil]at hown HL ⊢
     go_wp2_with (at_builtin;with_reducible refine Qk rfl (.tmp 83) (.tmp 88) _ rfl Yc (by decide) (by decide) (fun _ _ h=>h.one) rfl (hown.alloc _) rfl (SlP.one (x:=(x,(nextL ps x).1-1)) JN.out rfl _ rfl) HL.out (by rw[World.size_alloc];omega) ?_;intro v1 w1 hown1 hb1 _)
     go_roundg n
     case measure=>omega
     case rel=>exact⟨[]++[(x,(nextL ps x).1-1)],_,_,hown1,rfl,rfl,HBD.out x |>.1,HBD.out x |>.2,(hbr.alloc hsz _).trans hb1,by have:=HI.out;rw[if_pos (by decide),HO.out]at this;exact this,HNX.out,by have:=hlen.out;unfold Hid;simp at this ⊢;omega⟩
    obtain⟨r,hr⟩:∃ r,outL[outL.length-1]?=some r:=⟨_,List.getElem?_eq_getElem (by omega)⟩
    obtain⟨g,cap,rfl,hg1,hg2,c0,c1,hfz,hset⟩:=hown.setRun hr (z:=(nextL ps x).1-1) ⟨by omega,by omega⟩
    have hfz1:=hfz ((outL.length-1)*2+1)
    have HBO:Hid (byOut outL x (nextL ps x).1=if r.2=x-1 then outL.set (outL.length-1) (r.1,(nextL ps x).1-1) else outL++[(x,(nextL ps x).1-1)]):=by
     unfold Hid byOut;rw[List.getLast?_eq_getElem?,hr]
    clear hr hfz
    by_cases hq:r.2=x-1
    ·have HO:Hid (byOut outL x (nextL ps x).1=outL.set (outL.length-1) (r.1,(nextL ps x).1-1)):=by unfold Hid;rw[HBO.out,if_pos hq]
     have hq':(r.2==x-1)=true:=by simpa using hq
     have HQ:=hid hq
     have HS:=hid hset
     clear hq hset
     go_wp2_with fail
     go_roundg n
     case measure=>omega
     case rel=>exact⟨outL.set (outL.length-1) (r.1,(nextL ps x).1-1),_,_,HS.out,rfl,rfl,HBD.out x |>.1,HBD.out x |>.2,hbr.setCell (by exact hg1) _,by have:=HI.out;rw[if_pos (by decide),HO.out]at this;exact this,HNX.out,by have:=hlen.out;unfold Hid;rw[List.length_set];omega⟩
    ·have HO:Hid (byOut outL x (nextL ps x).1=outL++[(x,(nextL ps x).1-1)]):=by unfold Hid;rw[HBO.out,if_neg hq]
     have hq':(r.2==x-1)=false:=by simpa using hq
     have HQ:=hid hq
     clear hq hset
     go_wp2_with (at_builtin;with_reducible refine Qk rfl (.tmp 83) (.tmp 88) _ rfl Yc (by decide) (by decide) (fun _ _ h=>h.one) rfl (hown.alloc _) rfl (SlP.one (x:=(x,(nextL ps x).1-1)) JN.out rfl _ rfl) HL.out (by rw[World.size_alloc];omega) ?_;intro v1 w1 hown1 hb1 _)
     go_roundg n
     case measure=>omega
     case rel=>exact⟨outL++[(x,(nextL ps x).1-1)],_,_,hown1,rfl,rfl,HBD.out x |>.1,HBD.out x |>.2,(hbr.alloc hsz _).trans hb1,by have:=HI.out;rw[if_pos (by decide),HO.out]at this;exact this,HNX.out,by have:=hlen.out;unfold Hid;simp;omega⟩
   ·rcases Nat.eq_zero_or_pos outL.length with hz|hz
    ·obtain rfl:outL=[]:=List.eq_nil_of_length_eq_zero hz
     have HO:Hid (byOut [] x (nextL ps x).1=[]++[(x,(nextL ps x).1-1)]):=rfl
     obtain⟨A8,c8,rfl⟩:=hown.shape
     clear hz
     simp only[List.length_nil]at hown HL ⊢
     go_wp2_with (at_builtin;with_reducible refine Qk rfl (.tmp 83) (.tmp 88) _ rfl Yc (by decide) (by decide) (fun _ _ h=>h.one) rfl (hown.alloc _) rfl (SlP.one (x:=(x,(nextL ps x).1-1)) JN.out rfl _ rfl) HL.out (by rw[World.size_alloc];omega) ?_;intro v1 w1 hown1 hb1 _)
     go_roundg n
     case measure=>omega
     case rel=>exact⟨[]++[(x,(nextL ps x).1-1)],_,_,hown1,rfl,rfl,HBD.out x |>.1,HBD.out x |>.2,(hbr.alloc hsz _).trans hb1,by have:=HI.out;rw[if_pos (by decide),HO.out]at this;exact this,HNX.out,by have:=hlen.out;unfold Hid;simp at this ⊢;omega⟩
    obtain⟨r,hr⟩:∃ r,outL[outL.length-1]?=some r:=⟨_,List.getElem?_eq_getElem (by omega)⟩
    obtain⟨g,cap,rfl,hg1,hg2,c0,c1,hfz,hset⟩:=hown.setRun hr (z:=(nextL ps x).1-1) ⟨by omega,by omega⟩
    have hfz1:=hfz ((outL.length-1)*2+1)
    have HBO:Hid (byOut outL x (nextL ps x).1=if r.2=x-1 then outL.set (outL.length-1) (r.1,(nextL ps x).1-1) else outL++[(x,(nextL ps x).1-1)]):=by
     unfold Hid byOut;rw[List.getLast?_eq_getElem?,hr]
    clear hr hfz
    by_cases hq:r.2=x-1
    ·have HO:Hid (byOut outL x (nextL ps x).1=outL.set (outL.length-1) (r.1,(nextL ps x).1-1)):=by unfold Hid;rw[HBO.out,if_pos hq]
     have hq':(r.2==x-1)=true:=by simpa using hq
     have HQ:=hid hq
     have HS:=hid hset
     clear hq hset
     go_wp2_with fail
     go_roundg n
     case measure=>omega
     case rel=>exact⟨outL.set (outL.length-1) (r.1,(nextL ps x).1-1),_,_,HS.out,rfl,rfl,HBD.out x |>.1,HBD.out x |>.2,hbr.setCell (by exact hg1) _,by have:=HI.out;rw[if_pos (by decide),HO.out]at this;exact this,HNX.out,by have:=hlen.out;unfold Hid;rw[List.length_set];omega⟩
    ·have HO:Hid (byOut outL x (nextL ps x).1=outL++[(x,(nextL ps x).1-1)]):=by unfold Hid;rw[HBO.out,if_neg hq]
     have hq':(r.2==x-1)=false:=by simpa using hq
     have HQ:=hid hq
     clear hq hset
     go_wp2_with (at_builtin;with_reducible refine Qk rfl (.tmp 83) (.tmp 88) _ rfl Yc (by decide) (by decide) (fun _ _ h=>h.one) rfl (hown.alloc _) rfl (SlP.one (x:=(x,(nextL ps x).1-1)) JN.out rfl _ rfl) HL.out (by rw[World.size_alloc];omega) ?_;intro v1 w1 hown1 hb1 _)
     go_roundg n
     case measure=>omega
     case rel=>exact⟨outL++[(x,(nextL ps x).1-1)],_,_,hown1,rfl,rfl,HBD.out x |>.1,HBD.out x |>.2,(hbr.alloc hsz _).trans hb1,by have:=HI.out;rw[if_pos (by decide),HO.out]at this;exact this,HNX.out,by have:=hlen.out;unfold Hid;simp;omega⟩
   ·go_wp2_with fail
    go_roundg n
    case measure=>omega
    case rel=>exact⟨outL,_,_,hown,rfl,rfl,HBD.out x |>.1,HBD.out x |>.2,hbr,by have:=HI.out;rw[if_neg (by decide)]at this;exact this,HNX.out,by have:=hlen.out;unfold Hid;omega⟩
def ofOut (out:List (Int×Int))(x:Int):List (Int×Int):=
 match out.getLast? with
 |some r=>if r.2=x-1 then out.set (out.length-1) (r.1,x) else out++[(x,x)]
 |none=>[(x,x)]
def ofGo (ps:List Int):Nat->Int×Bool->List (Int×Int)->List (Int×Int)
 |0,_,out=>out
 |n+1,s,out=>if s.2 then ofGo ps n (nextL ps s.1) (ofOut out s.1) else out
def ofL (ps:List Int):List (Int×Int):=ofGo ps (ps.length+1) (nextL ps 0) []
theorem qJi (ps:List Int)(n:Nat)(x:Int)(out:List (Int×Int)):ofGo ps n (x,false) out=out:=by
 cases n<;>simp[ofGo]
theorem qK4 (out:List (Int×Int))(x:Int):(ofOut out x).length<=out.length+1:=by
 unfold ofOut
 cases h:out.getLast? with
 |none=>simp
 |some r=>dsimp only;split<;>simp
theorem qXs (ps:List Int):∀ (n:Nat) (s:Int×Bool) (out:List (Int×Int)),(ofGo ps n s out).length<=out.length+n
 |0,s,out=>by simp[ofGo]
 |n+1,s,out=>by
  rw[ofGo]
  split
  ·have:=qXs ps n (nextL ps s.1) (ofOut out s.1);have:=qK4 out s.1;omega
  ·omega
theorem Vm (ps:List Int):(ofL ps).length<=ps.length+1:=by have:=qXs ps (ps.length+1) (nextL ps 0) [];simpa[ofL] using this
theorem qK5 (ps:List Int)(vp:Value)(w:World)(hsp:SlP w w.heap.size 1 InE vp ps)(hN:ps.length<=400000)(hps:∀ x∈ps,0<=x/\x<=1099511627778) :
  Calls Tryz.prog 164 #[vp] w (RetO w 166 2 (fun _=>RuE) (ofL ps)):=by
 have HY:Hid (ofL ps=ofGo ps (ps.length+1) (nextL ps 0) []):=rfl
 have HBD:Hid (∀ x,0<=(nextL ps x).1/\(nextL ps x).1<=1099511627778):=fun x=>qXo hps (by omega) (by omega)
 have HMH:Hid (∀ x,x∈ps->∀ n,(cnt ps x<=n+1)->(nextL ps x).2=true->(nextL ps x).1∈ps/\cnt ps (nextL ps x).1<=n):=fun x hx n hc h=>⟨(Q6 h).1,by have:=qXp hx (Q6 h).2;omega⟩
 have HM0H:Hid ((nextL ps 0).2=true->(nextL ps 0).1∈ps/\cnt ps (nextL ps 0).1<=ps.length+1):=fun h=>⟨(Q6 h).1,by have:=qXq ps (nextL ps 0).1;omega⟩
 clear hps
 go_enter Tryz.func164,Tryz.ntmps164
 go_wp2_with (go_at_call 190;with_reducible refine (Zi ps 0 vp w _ hsp).mono ?_;rintro e wx ⟨rfl,rfl⟩)
 go_loopg [3,4,5] (ps.length+1) (fun n vo vx vk wr=>∃ (outL:List (Int×Int)) (x:Int) (k:Bool),OwnP wr w.heap.size 166 2 RuE vo outL/\vx=.int .i64 x/\vk=.bool k/\0<=x/\x<=1099511627778/\Below w.heap.size w wr /\
  Hid (ofGo ps n (x,k) outL=ofL ps)/\Hid (k=true->x∈ps/\cnt ps x<=n)/\Hid (outL.length+n<=ps.length+1))
 case atStart=>exact⟨[],_,_,OwnP.nil,rfl,rfl,(HBD.out 0).1,(HBD.out 0).2,Below.refl _ _,HY.out.symm,HM0H.out,by unfold Hid;simp⟩
 case round=>
  obtain⟨outL,x,k,hown,rfl,rfl,hx0,hx1,hbr,hrel,hmem,hlen⟩:=hrel
  have hsz:=hbr.size
  cases k
  ·have hr:=hrel.out
   rw[qJi]at hr
   have HR:=hid hr
   clear hr
   go_wp2_with fail
   go_ret
   exact⟨_,rfl,by rw[←HR.out];exact hown,hbr⟩
  ·obtain⟨n,rfl⟩:∃ n,gk=n+1:=⟨gk-1,by have:=hmem.out rfl;have:=qK2 this.1;omega⟩
   have HMM:=hid (hmem.out rfl)
   have HI:Hid (ofGo ps n (nextL ps x) (ofOut outL x)=ofL ps):=hrel.out
   have HPR:Hid (∀ w',Below w.heap.size w w'->SlP w' w.heap.size 1 InE vp ps):=fun w' hb'=>hsp.imp hb' (Nat.le_refl _) fun _ _ _ h=>h
   have JN:Hid (RuE (x,x) [.int .i64 x,.int .i64 x]):=⟨rfl,⟨by omega,by omega⟩,⟨by show _<=x;omega,by show x<=_;omega⟩⟩
   have HNX:Hid ((nextL ps x).2=true->(nextL ps x).1∈ps/\cnt ps (nextL ps x).1<=n):=fun h=>HMH.out x HMM.out.1 n HMM.out.2 h
   have HL:Hid (outL.length + [(x,x)].length<=Few):=by have:=hlen.out;unfold Hid Few;simp;omega
   have hob:outL.length<=400001:=by have:=hlen.out;omega
   rcases Nat.eq_zero_or_pos outL.length with hz|hz
   ·obtain rfl:outL=[]:=List.eq_nil_of_length_eq_zero hz
    have HO:Hid (ofOut [] x=[]++[(x,x)]):=rfl
    obtain⟨A8,c8,rfl⟩:=hown.shape
    clear hz
    simp only[List.length_nil]at hown ⊢
    have HL:Hid (([]:List (Int×Int)).length + [(x,x)].length<=Few):=by unfold Hid Few;simp
    go_wp2_with (first|(at_builtin;with_reducible refine Qk rfl (.tmp 34) (.tmp 38) _ rfl Yc (by decide) (by decide) (fun _ _ h=>h.one) rfl (hown.alloc _) rfl (SlP.one (x:=(x,x)) JN.out rfl _ rfl) HL.out (by rw[World.size_alloc];omega) ?_;intro v1 w1 hown1 hb1 _)|(go_at_call 190;with_reducible refine (Zi ps x vp _ _ (HPR.out _ ((hbr.alloc hsz _).trans hb1))).mono ?_;rintro e wx ⟨rfl,rfl⟩))
    go_roundg n
    case measure=>omega
    case rel=>exact⟨[]++[(x,x)],_,_,hown1,rfl,rfl,HBD.out x |>.1,HBD.out x |>.2,(hbr.alloc hsz _).trans hb1,by have:=HI.out;rw[HO.out]at this;exact this,HNX.out,by have:=hlen.out;unfold Hid;simp at this ⊢;omega⟩
   obtain⟨r,hr⟩:∃ r,outL[outL.length-1]?=some r:=⟨_,List.getElem?_eq_getElem (by omega)⟩
   obtain⟨g,cap,rfl,hg1,hg2,c0,c1,hfz,hset⟩:=hown.setRun hr (z:=x) ⟨by omega,by omega⟩
   have hfz1:=hfz ((outL.length-1)*2+1)
   have HBO:Hid (ofOut outL x=if r.2=x-1 then outL.set (outL.length-1) (r.1,x) else outL++[(x,x)]):=by
    unfold Hid ofOut;rw[List.getLast?_eq_getElem?,hr]
   clear hr hfz
   by_cases hq:r.2=x-1
   ·have HO:Hid (ofOut outL x=outL.set (outL.length-1) (r.1,x)):=by unfold Hid;rw[HBO.out,if_pos hq]
    have hq':(r.2==x-1)=true:=by simpa using hq
    have HQ:=hid hq
    have HS:=hid hset
    clear hq hset
    go_wp2_with (go_at_call 190;with_reducible refine (Zi ps x vp _ _ (HPR.out _ (hbr.setCell (by exact hg1) _))).mono ?_;rintro e wx ⟨rfl,rfl⟩)
    go_roundg n
    case measure=>omega
    case rel=>exact⟨outL.set (outL.length-1) (r.1,x),_,_,HS.out,rfl,rfl,HBD.out x |>.1,HBD.out x |>.2,hbr.setCell (by exact hg1) _,by have:=HI.out;rw[HO.out]at this;exact this,HNX.out,by have:=hlen.out;unfold Hid;rw[List.length_set];omega⟩
   ·have HO:Hid (ofOut outL x=outL++[(x,x)]):=by unfold Hid;rw[HBO.out,if_neg hq]
    have hq':(r.2==x-1)=false:=by simpa using hq
    have HQ:=hid hq
    clear hq hset
    go_wp2_with (first|(at_builtin;with_reducible refine Qk rfl (.tmp 34) (.tmp 38) _ rfl Yc (by decide) (by decide) (fun _ _ h=>h.one) rfl (hown.alloc _) rfl (SlP.one (x:=(x,x)) JN.out rfl _ rfl) HL.out (by rw[World.size_alloc];omega) ?_;intro v1 w1 hown1 hb1 _)|(go_at_call 190;with_reducible refine (Zi ps x vp _ _ (HPR.out _ ((hbr.alloc hsz _).trans hb1))).mono ?_;rintro e wx ⟨rfl,rfl⟩))
    go_roundg n
    case measure=>omega
    case rel=>exact⟨outL++[(x,x)],_,_,hown1,rfl,rfl,HBD.out x |>.1,HBD.out x |>.2,(hbr.alloc hsz _).trans hb1,by have:=HI.out;rw[HO.out]at this;exact this,HNX.out,by have:=hlen.out;unfold Hid;simp at this ⊢;omega⟩
theorem qK6 (out:List (Int×Int))(x y:Int):(byOut out x y).length<=out.length+1:=by
 unfold byOut
 cases h:out.getLast? with
 |none=>simp
 |some r=>dsimp only;split<;>simp
theorem qXt (a b:List (Int×Int))(how:Int)(ps:List Int):∀ (n:Nat) (s:Int×Bool) (out:List (Int×Int)),(byGo a b how ps n s out).length<=out.length+n
 |0,s,out=>by simp[byGo]
 |n+1,s,out=>by
  rw[byGo]
  split
  ·have h1:=qXt a b how ps n (nextL ps s.1) (if inn how (hasL a s.1) (hasL b s.1) then byOut out s.1 (nextL ps s.1).1 else out)
   have h2:=qK6 out s.1 (nextL ps s.1).1
   split at h1<;>rename_i hc
   ·rw[if_pos hc];omega
   ·rw[if_neg hc];omega
  ·omega
theorem JJ (a b:List (Int×Int))(how:Int):(byL a b how).length<=2*a.length+2*b.length+1:=by
 have:=qXt a b how (endsL a++endsL b) ((endsL a++endsL b).length+1) (nextL (endsL a++endsL b) 0) []
 have h1:=Xm a
 have h2:=Xm b
 simp at this
 unfold byL
 simp
 omega
def SpsOk (c:List Sp):Prop:=∀ s∈c,0<=s.fr/\s.fr<=1099511627777/\0<=s.hi/\s.hi<=1099511627777
theorem qXu {c:List Sp}(h:SpsOk c)(dc:Int):Zg (partL c dc):=fun r hr=>by
 unfold partL at hr
 obtain⟨s,hs,rfl⟩:=List.mem_map.1 hr
 exact h s (List.mem_filter.1 hs).1
def Xn (a b:List Sp)(how:Int)(k:Nat):List Sp:=(List.range k).flatMap fun (dc:Nat)=>Qz (dc:Int) (byL (partL a dc) (partL b dc) how)
def ctxBy (a b:List Sp)(how:Int):List Sp:=Xn a b how 4
theorem Zj (a b:List Sp)(how:Int):∀ k,(Xn a b how k).length<=k*(2*a.length+2*b.length+1)
 |0=>by simp[Xn]
 |k+1=>by
  have h:=Zj a b how k
  have h1:=JJ (partL a k) (partL b k) how
  have h2:=QK a k
  have h3:=QK b k
  unfold Xn at *
  rw[List.range_succ,List.flatMap_append,List.length_append,Nat.add_mul]
  simp only[List.flatMap_cons,List.flatMap_nil,List.append_nil,Qz,List.length_map]at *
  omega
theorem VR (a b:List Sp)(how:Int)(va vb:Value)(w:World)(ha:SlP w w.heap.size 3 SpE va a)(hb:SlP w w.heap.size 3 SpE vb b)(hN:a.length<=50000)(hN':b.length<=50000)(hR:SpsOk a)(hR':SpsOk b)(hh:how=0∨how=1∨how=2) :
  Calls Tryz.prog 123 #[va,vb,.int .i64 how] w (RetO w 45 3 (fun _=>SpE) (ctxBy a b how)):=by
 go_enter Tryz.func123,Tryz.ntmps123
 go_wp2_with fail
 go_loopw [7,9] (fun v i wr=>∃ k:Nat,k<=4/\i=.int .i64 k/\OwnP wr w.heap.size 45 3 SpE v (Xn a b how k)/\Below w.heap.size w wr) (fun _ i _=>4-(intOf i).toNat)
 case atStart=>exact⟨0,Nat.zero_le _,rfl,OwnP.nil,Below.refl _ _⟩
 case round=>
  obtain⟨k,hk,rfl,hown,hbr⟩:=hrel
  have hsz:=hbr.size
  by_cases hlt:k<4
  ·have hpa:=QK a k
   have hpb:=QK b k
   have hl:=JJ (partL a k) (partL b k) how
   have hcl:=Zj a b how k
   have HL:Hid ((Xn a b how k).length+(Qz (k:Int) (byL (partL a k) (partL b k) how)).length<=Few):=by
    have:k*(2*a.length+2*b.length+1)<=3*(2*a.length+2*b.length+1):=Nat.mul_le_mul_right _ (by omega)
    unfold Hid Few Qz;rw[List.length_map];omega
   have HX:Hid (Xn a b how (k+1)=Xn a b how k++Qz (k:Int) (byL (partL a k) (partL b k) how)):=by
    unfold Hid Xn;rw[List.range_succ,List.flatMap_append];simp
   have HLL:=hid hl
   clear hcl hl
   go_wp2_with fail
   refine (Yp a k va wr (ha.imp hbr hsz fun _ _ _ h=>h) (by omega)).mono ?_
   rintro e w1 ⟨v1,rfl,ho1,hb1⟩
   have hs1:=hb1.size
   go_wp2_with fail
   refine (Yp b k vb w1 (hb.imp (hbr.trans (hb1.mono hsz)) (by omega) fun _ _ _ h=>h) (by omega)).mono ?_
   rintro e w2 ⟨v2,rfl,ho2,hb2⟩
   have hs2:=hb2.size
   have s1:=(ho1.grow hb2).sl (by unfold Big;omega)
   have s2:=ho2.sl (by unfold Big;omega)
   clear ho1 ho2
   go_wp2_with fail
   refine (qK3 (partL a k) (partL b k) how v1 v2 w2 s1 s2 (by omega) (by omega) (qXu hR k) (qXu hR' k) hh).mono ?_
   rintro e w3 ⟨v3,rfl,ho3,hb3⟩
   have hs3:=hb3.size
   have s3:=ho3.sl (by have:=HLL.out;unfold Big;omega)
   clear ho3
   go_wp2_with fail
   refine (Jr _ k v3 w3 s3 (by have:=HLL.out;omega) ⟨by omega,by omega⟩).mono ?_
   rintro e w4 ⟨v4,rfl,ho4,hb4⟩
   have hs4:=hb4.size
   have s4:=ho4.sl (by have:=HL.out;unfold Few at this;unfold Big;omega)
   have hB4:Below wr.heap.size wr w4:=((hb1.trans (hb2.mono hs1)).trans (hb3.mono (by omega))).trans (hb4.mono (by omega))
   clear ho4
   go_wp2_with (at_builtin;with_reducible refine Qk rfl (.tmp 12) (.tmp 22) _ rfl JF (by decide) (by decide) (fun _ _ h=>h.one) rfl (hown.grow hB4) rfl s4 HL.out (by omega) ?_;intro v5 w5 hown5 hb5 _)
   go_roundw
   case rel=>exact⟨k+1,by omega,by go_num,by rw[HX.out];exact hown5,(hbr.trans (hB4.mono hsz)).trans hb5⟩
   case measure=>simp[intOf];omega
  ·obtain rfl:k=4:=by omega
   go_wp2_with fail
   go_ret
   exact⟨_,rfl,hown,hbr⟩
theorem YC (a b:List Sp)(va vb:Value)(w:World)(ha:SlP w w.heap.size 3 SpE va a)(hb:SlP w w.heap.size 3 SpE vb b)(hN:a.length<=50000)(hN':b.length<=50000)(hR:SpsOk a)(hR':SpsOk b) :
  Calls Tryz.prog 110 #[va,vb] w (RetO w 45 3 (fun _=>SpE) (ctxBy a b 0)):=by
 go_enter Tryz.func110,Tryz.ntmps110
 go_wp2_with fail
 refine (VR a b 0 va vb w ha hb hN hN' hR hR' (.inl rfl)).mono ?_
 rintro e w1 ⟨v,rfl,h⟩
 go_wp2_with fail
 go_ret
 exact⟨v,rfl,h⟩
def numsL (l:List Dt)(dc:Int):List Int:=(l.filter fun d=>d.dc==dc).map fun d=>d.n
def Y6 (l:List Dt)(k:Nat):List Sp:=(List.range k).flatMap fun (dc:Nat)=>Qz (dc:Int) (ofL (numsL l dc))
def ctxOf (l:List Dt):List Sp:=Y6 l 4
theorem KJ {c:List Dt}{k:Nat}{x:Dt}(h:c[k]?=some x)(dc:Int):numsL (c.take (k+1)) dc=numsL (c.take k) dc++(if x.dc=dc then [x.n] else []):=by
 unfold numsL
 rw[List.take_add_one,h]
 by_cases hd:x.dc=dc<;>simp[hd]
theorem ZK (c:List Dt)(dc:Int):(numsL c dc).length<=c.length:=by
 unfold numsL;rw[List.length_map];exact List.length_filter_le _ _
theorem Zk (l:List Dt):∀ k,(Y6 l k).length<=k*(l.length+1)
 |0=>by simp[Y6]
 |k+1=>by
  have h:=Zk l k
  have h1:=Vm (numsL l k)
  have h2:=ZK l k
  unfold Y6 at *
  rw[List.range_succ,List.flatMap_append,List.length_append,Nat.add_mul]
  simp only[List.flatMap_cons,List.flatMap_nil,List.append_nil,Qz,List.length_map]at *
  omega
theorem qK7 (l:List Dt)(vl:Value)(w:World)(hl:SlP w w.heap.size 2 DtE vl l)(hN:l.length<=100000)(hR:∀ d∈l,0<=d.n/\d.n<=1099511627778) :
  Calls Tryz.prog 124 #[vl] w (RetO w 45 3 (fun _=>SpE) (ctxOf l)):=by
 obtain⟨A,n,rfl,b1,b2,b3⟩:=hl
 unfold Big at b2
 go_enter Tryz.func124,Tryz.ntmps124
 go_wp2_with fail
 go_loopw [3,7] (fun v i wr=>∃ k:Nat,k<=4/\i=.int .i64 k/\OwnP wr w.heap.size 45 3 SpE v (Y6 l k)/\Below w.heap.size w wr) (fun _ i _=>4-(intOf i).toNat)
 case atStart=>exact⟨0,Nat.zero_le _,rfl,OwnP.nil,Below.refl _ _⟩
 case round=>
  obtain⟨k,hk,rfl,hown,hbr⟩:=hrel
  have hsz:=hbr.size
  by_cases hlt:k<4
  ·have HL:Hid ((Y6 l k).length+(Qz (k:Int) (ofL (numsL l k))).length<=Few):=by
    have h1:=Vm (numsL l k)
    have h2:=ZK l k
    have hcl:=Zk l k
    have:k*(l.length+1)<=3*(l.length+1):=Nat.mul_le_mul_right _ (by omega)
    unfold Hid Few Qz;rw[List.length_map];omega
   have HX:Hid (Y6 l (k+1)=Y6 l k++Qz (k:Int) (ofL (numsL l k))):=by
    unfold Hid Y6;rw[List.range_succ,List.flatMap_append];simp
   have hlen:=ZK l k
   have hlt':decide ((k:Int)<4)=true:=by simp;omega
   go_wp2_with fail
   obtain⟨wo,rfl⟩:∃ wo:World,wo=wr:=⟨_,rfl⟩
   go_loopw [5,12] (fun v i wr=>∃ j:Nat,j<=l.length/\i=.int .i64 j/\OwnP wr wo.heap.size 2 1 InE v (numsL (l.take j) k)/\Below wo.heap.size wo wr) (fun _ i _=>l.length-(intOf i).toNat)
   case atStart=>exact⟨0,Nat.zero_le _,rfl,OwnP.nil,Below.refl _ _⟩
   case round=>
    obtain⟨j,hj,rfl,hin,hbi⟩:=hrel
    have hsi:=hbi.size
    by_cases hjl:j<l.length
    ·obtain⟨x,hx⟩:∃ x,l[j]?=some x:=⟨_,List.getElem?_eq_getElem hjl⟩
     obtain⟨b,off,rfl,hbB,hc⟩:=b3 (by rintro rfl;simp at hjl)
     obtain⟨cs,⟨rfl,hok⟩,_,hu⟩:=hc j _ hx
     have e0:wr.cell? ⟨b,off+j*2,none⟩=some (.int .i64 x.dc):=((hbi.cell (by show b<_;omega)).trans (hbr.cell hbB)).trans (hu 0 _ rfl)
     have e1:wr.cell? ⟨b,off+j*2+1,none⟩=some (.int .i64 x.n):=((hbi.cell (by show b<_;omega)).trans (hbr.cell hbB)).trans (hu 1 _ rfl)
     have HT:=hid (KJ hx k)
     have HLI:Hid ((numsL (l.take j) k).length + [x.n].length<=Few):=by
      have:=ZK (l.take j) k
      unfold Hid Few;simp at this ⊢;omega
     have JN:Hid (InE x.n [.int .i64 x.n]):=⟨rfl,hok.n⟩
     clear hu hx hc b3 hok
     by_cases hd:x.dc=k
     ·have hd':(x.dc==(k:Int))=true:=by simpa using hd
      have HD:=hid hd
      clear hd
      go_wp2_with (at_builtin;with_reducible refine Qk rfl (.tmp 22) (.tmp 28) _ rfl Vk (by decide) (by decide) (fun _ _ h=>h.one) rfl (hin.alloc _) rfl (SlP.one JN.out rfl _ rfl) HLI.out (by rw[World.size_alloc];omega) ?_;intro v1 w1 hown1 hb1 _)
      go_roundw
      case rel=>exact⟨j+1,by omega,by go_num,by rw[HT.out,if_pos HD.out];exact hown1,(hbi.alloc hsi _).trans hb1⟩
      case measure=>simp[intOf];omega
     ·have hd':(x.dc==(k:Int))=false:=by simpa using hd
      have HD:=hid hd
      clear hd
      go_wp2_with fail
      go_roundw
      case rel=>exact⟨j+1,by omega,by go_num,by rw[HT.out,if_neg HD.out,List.append_nil];exact hin,hbi⟩
      case measure=>simp[intOf];omega
    ·obtain rfl:j=l.length:=by omega
     rw[List.take_of_length_le (Nat.le_refl _)]at hin
     have sin:=hin.sl (by unfold Big;omega)
     have hnr:Hid (∀ x∈numsL l k,0<=x/\x<=1099511627778):=fun x hx=>by
      unfold numsL at hx
      obtain⟨d,hd,rfl⟩:=List.mem_map.1 hx
      exact hR d (List.mem_filter.1 hd).1
     clear hin
     go_wp2_with fail
     refine (qK5 (numsL l k) _ wr sin (by omega) hnr.out).mono ?_
     rintro e w1 ⟨v1,rfl,ho1,hb1⟩
     have hs1:=hb1.size
     have hol:=Vm (numsL l k)
     have s1:=ho1.sl (by unfold Big;omega)
     clear ho1
     go_wp2_with fail
     refine (Jr _ k v1 w1 s1 (by omega) ⟨by omega,by omega⟩).mono ?_
     rintro e w4 ⟨v4,rfl,ho4,hb4⟩
     have hs4:=hb4.size
     have s4:=ho4.sl (by have:=HL.out;unfold Few at this;unfold Big;omega)
     have hB4:Below wo.heap.size wo w4:=(hbi.trans (hb1.mono hsi)).trans (hb4.mono (by omega))
     clear ho4
     go_wp2_with (at_builtin;with_reducible refine Qk rfl (.tmp 31) (.tmp 35) _ rfl JF (by decide) (by decide) (fun _ _ h=>h.one) rfl (hown.grow hB4) rfl s4 HL.out (by omega) ?_;intro v5 w5 hown5 hb5 _)
     go_roundw
     case rel=>exact⟨k+1,by omega,by go_num,by rw[HX.out];exact hown5,(hbr.trans (hB4.mono hsz)).trans hb5⟩
     case measure=>simp[intOf];omega
  ·obtain rfl:k=4:=by omega
   go_wp2_with fail
   go_ret
   exact⟨_,rfl,hown,hbr⟩
theorem SlA.nil {α:Type}{w:World}{ok:Nat->Prop}{sz:Nat}{E:α->List Value->Prop}:SlA w ok sz E (.slice none 0 0) ([]:List α):=⟨none,0,rfl,Nat.le_refl _,by simp,fun h=>absurd rfl h⟩
theorem ZA (t:Tr)(w:World)(ve vk:Value)(h:t.rd w w.heap.size ve vk)(hN:t.sz<=100000) :
  Calls Tryz.prog 41 #[.agg #[ve,vk]] w (RetD w 91 5 LfA (fun _=>False) (t.lvs [])):=by
 obtain⟨A3,n3,A4,n4,rfl,rfl⟩:=Qj h
 have hr:=Qi ((Below.refl _ w).alloc (Nat.le_refl _) (.cells #[.slice A3 t.es.length n3,.slice A4 t.ks.length n4] 25)) (by simp:w.heap.size<=(w.alloc (.cells #[.slice A3 t.es.length n3,.slice A4 t.ks.length n4] 25)).heap.size) _ _ _ h
 have HR:=hid hr
 clear hr h
 go_enter Tryz.func41,Tryz.ntmps41
 go_wp2_with fail
 refine (VQ t [] (fun _=>False) _ _ _ _ HR.out SlA.nil (fun _ h=>h.elim) (by simpa using hN)).mono ?_
 rintro e w1 ⟨v,rfl,hv,hb⟩
 have hs:=hb.size
 simp only[World.size_alloc]at hs hb
 go_wp2_with fail
 go_ret
 refine⟨v,rfl,(hv.mono (by simp)).weak LfA.mon fun b hb=>?_,((Below.refl _ w).alloc (Nat.le_refl _) _).trans (hb.mono (by omega))⟩
 rcases hb with h|h
 ·exact h.elim
 ·refine .inr ?_;rw[World.size_alloc]at h;omega
mutual
theorem lvs_dots:∀ (t:Tr) (p:List ByteArray),(t.lvs p).map (fun x=>x.2.dot)=t.dots
 |.mk es ks,p=>by rw[Tr.lvs,Tr.dots,List.map_append,lvsL_dots ks p,List.map_map];rfl
theorem lvsL_dots:∀ (ks:List (ByteArray×Tr)) (p:List ByteArray),(Tr.lvsL ks p).map (fun x=>x.2.dot)=Tr.dotsL ks
 |[],p=>by rw[Tr.lvsL,Tr.dotsL];rfl
 |(k,t) :: ks,p=>by rw[Tr.lvsL,Tr.dotsL,List.map_append,lvs_dots t,lvsL_dots ks]
end
theorem Zb (t:Tr):t.dots.length<=t.sz:=by rw[←lvs_dots t [],List.length_map];exact lvs_len t []
theorem Zl (t:Tr)(w:World)(ve vk:Value)(h:t.rd w w.heap.size ve vk)(hN:t.sz<=90000)(hR:∀ d∈t.dots,0<=d.n/\d.n<=1099511627778) :
  Calls Tryz.prog 78 #[.agg #[ve,vk]] w (RetO w 45 3 (fun _=>SpE) (ctxOf t.dots)):=by
 obtain⟨A3,n3,A4,n4,rfl,rfl⟩:=Qj h
 have hr:=Qi ((Below.refl _ w).alloc (Nat.le_refl _) (.cells #[.slice A3 t.es.length n3,.slice A4 t.ks.length n4] 25)) (by simp:w.heap.size<=(w.alloc (.cells #[.slice A3 t.es.length n3,.slice A4 t.ks.length n4] 25)).heap.size) _ _ _ h
 have HR:=hid hr
 have hll:=lvs_len t []
 have hdl:=Zb t
 have hld:=hid (lvs_dots t [])
 clear hr h
 go_enter Tryz.func78,Tryz.ntmps78
 go_wp2_with fail
 refine (ZA t _ _ _ HR.out (by omega)).mono ?_
 rintro e w1 ⟨v,rfl,hv,hb1⟩
 have hs1:=hb1.size
 simp only[World.size_alloc]at hs1 hb1
 have hB1:Below w.heap.size w w1:=((Below.refl _ w).alloc (Nat.le_refl _) _).trans (hb1.mono (by omega))
 obtain⟨A,c,rfl,l1,l2,l3⟩:=hv.sl LfA.mon (by unfold Big;omega)
 unfold Big at l2
 clear hv
 go_wp2_with fail
 go_loopw [3,10] (fun v i wr=>∃ k:Nat,k<=(t.lvs []).length/\i=.int .i64 k/\OwnP wr w1.heap.size 78 2 DtE v (((t.lvs []).take k).map (fun x=>x.2.dot))/\Below w1.heap.size w1 wr) (fun _ i _=>(t.lvs []).length-(intOf i).toNat)
 case atStart=>exact⟨0,Nat.zero_le _,rfl,OwnP.nil,Below.refl _ _⟩
 case round=>
  obtain⟨k,hk,rfl,hown,hb⟩:=hrel
  have hsz:=hb.size
  by_cases hlt:k<(t.lvs []).length
  ·obtain⟨x,hx⟩:∃ x,(t.lvs [])[k]?=some x:=⟨_,List.getElem?_eq_getElem hlt⟩
   obtain⟨b,off,rfl,hbB,hc⟩:=l3 (by intro e;rw[e]at hlt;simp at hlt)
   obtain⟨cs,⟨A7,c7,rfl,_,hok⟩,_,hu⟩:=hc k _ hx
   have e0:wr.cell? ⟨b,off+k*5+1,none⟩=some (.int .i64 x.2.dc):=(hb.cell hbB).trans (hu 1 _ rfl)
   have e1:wr.cell? ⟨b,off+k*5+2,none⟩=some (.int .i64 x.2.n):=(hb.cell hbB).trans (hu 2 _ rfl)
   have HX:Hid (((t.lvs []).take (k+1)).map (fun x=>x.2.dot)=((t.lvs []).take k).map (fun x=>x.2.dot)++[x.2.dot]):=by
    unfold Hid;rw[List.take_add_one,hx];simp
   have HL:Hid ((((t.lvs []).take k).map (fun x=>x.2.dot)).length + [x.2.dot].length<=Few):=by unfold Hid Few;simp;omega
   have JN:Hid (DtE x.2.dot [.int .i64 x.2.dc,.int .i64 x.2.n]):=⟨rfl,hok.dc,hok.n⟩
   clear hu hx hc l3 hok
   go_wp2_with (at_builtin;with_reducible refine Qk rfl (.tmp 13) (.tmp 20) _ rfl eiDot (by decide) (by decide) (fun _ _ h=>h.one) rfl (hown.alloc _) rfl (SlP.one JN.out rfl _ rfl) HL.out (by rw[World.size_alloc];omega) ?_;intro v1 w2 hown1 hb2 _)
   go_roundw
   case rel=>exact⟨k+1,by omega,by go_num,by rw[HX.out];exact hown1,(hb.alloc (by omega) _).trans hb2⟩
   case measure=>simp[intOf];omega
  ·obtain rfl:k=(t.lvs []).length:=by omega
   rw[List.take_of_length_le (Nat.le_refl _),hld.out]at hown
   have sown:=hown.sl (by unfold Big;omega)
   clear hown
   go_wp2_with fail
   refine (qK7 t.dots _ wr sown (by omega) hR).mono ?_
   rintro e w3 ⟨v3,rfl,hv3,hb3⟩
   go_wp2_with fail
   go_ret
   exact⟨v3,rfl,hv3.mono (by omega),(hB1.trans (hb.mono (by omega))).trans (hb3.mono (by omega))⟩
def deepL (l:List Lf):Nat:=(l.map fun x=>x.1.length).sum
theorem qXv {l:List Lf}{x:Lf}(h:x∈l):x.1.length<=deepL l:=by
 unfold deepL
 induction l with
 |nil=>cases h
 |cons y l ih=>
  rw[List.map_cons,List.sum_cons]
  rcases List.mem_cons.1 h with rfl|h
  ·omega
  ·have:=ih h;omega
def QC (l:List Lf):Tr:=JH (deepL l) l
def getL (l:List Lf)(p:List ByteArray):List Lf:=p.foldl Qt l
def getT (t:Tr)(p:List ByteArray):Tr:=QC (getL (t.lvs []) p)
theorem qK9 {l:List Lf}{p:List ByteArray}{k:Nat}{x:ByteArray}(h:p[k]?=some x):getL l (p.take (k+1))=Qt (getL l (p.take k)) x:=by
 unfold getL;rw[List.take_add_one,h,List.foldl_append];rfl
theorem zQb (l:List Lf)(p:List ByteArray):(getL l p).length<=l.length:=by
 unfold getL
 induction p generalizing l with
 |nil=>exact Nat.le_refl _
 |cons x p ih=>exact Nat.le_trans (ih _) (Ye l x)
theorem ZZ {w:World}{g:Nat}{t:Tr}{ok:Nat->Prop}{ve vk x y:Value}{e:TypeId}(hbx:w.heap[g]?=some (.cells #[x,y] e (0,0)))(h:t.rda w ok ve vk)(hne:∀ b,ok b->b≠g) :
  ((w.setCell ⟨g,0,none⟩ ve).setCell ⟨g,1,none⟩ vk).cell? ⟨g,0,none⟩=some ve/\((w.setCell ⟨g,0,none⟩ ve).setCell ⟨g,1,none⟩ vk).cell? ⟨g,1,none⟩=some vk /\
   t.rda ((w.setCell ⟨g,0,none⟩ ve).setCell ⟨g,1,none⟩ vk) ok ve vk/\((w.setCell ⟨g,0,none⟩ ve).setCell ⟨g,1,none⟩ vk).heap.size=w.heap.size:=by
 have hW:=Qe (i:=1) (Qe (i:=0) hbx ve) vk
 refine⟨(Qa (i:=0) hW).trans (by simp),(Qa (i:=1) hW).trans (by simp),Qs (fun b hb=>?_) (fun _ hb=>hb) _ _ _ h,by simp[World.setCell]⟩
 exact (Below.heap_setCell _ _ _ _ (hne b hb)).trans (Below.heap_setCell _ _ _ _ (hne b hb))
def RetT (w:World)(t:Tr)(e:Ending)(w':World):Prop:=
 ∃ ve vk,e=.returned (.agg #[ve,vk])/\t.rda w' (fun b=>w.heap.size<=b/\b<w'.heap.size) ve vk/\Below w.heap.size w w'
theorem Yq (l:List Lf)(vl:Value)(w:World)(h:SlP w w.heap.size 5 (LfA w (fun b=>b<w.heap.size)) vl l)(hN:l.length<=900000) :
  Calls Tryz.prog 43 #[vl] w (RetT w (QC l)):=Jq _ l vl w (fun _ hx=>qXv hx) h hN
theorem YR (t:Tr)(p:List ByteArray)(w:World)(ve vk vp:Value)(h:t.rd w w.heap.size ve vk)(hp:SlP w w.heap.size 1 StE vp p)(hN:t.sz<=100000) :
  Calls Tryz.prog 50 #[.agg #[ve,vk],vp] w (RetT w (getT t p)):=by
 obtain⟨A3,n3,A4,n4,rfl,rfl⟩:=Qj h
 obtain⟨A,c,rfl,p1,p2,p3⟩:=hp
 unfold Big at p2
 have hb0:Below w.heap.size w ((w.alloc (.cells #[.slice A3 t.es.length n3,.slice A4 t.ks.length n4] 25)).alloc (.cells #[.slice none 0 0,.slice none 0 0] 25)):=((Below.refl _ w).alloc (Nat.le_refl _) _).alloc (by simp) _
 have hll:Hid ((t.lvs []).length<=100000):=Nat.le_trans (lvs_len t []) hN
 have HG:Hid (getT t p=QC (getL (t.lvs []) p)):=rfl
 go_enter Tryz.func50,Tryz.ntmps50
 go_wp2_with (go_at_call 41;refine (ZA t _ _ _ (Qi hb0 (by simp;omega) _ _ _ h) hN).mono ?_;rintro e w1 ⟨vl,rfl,hl,hb1⟩)
 have hs1:=hb1.size
 simp only[World.size_alloc]at hs1
 have hbb:=hid ((hb1.block (w.heap.size+1) (by simp)).trans (Qd (w:=w.alloc (.cells #[.slice A3 t.es.length n3,.slice A4 t.ks.length n4] 25)) (by simp)))
 have HL0:Hid (SlP w1 w1.heap.size 5 (LfA w1 (fun b=>b<w1.heap.size)) vl (t.lvs [])):=(hl.sl LfA.mon (by have:=hll.out;unfold Big;omega)).imp (Below.refl _ _) (Nat.le_refl _) (fun _ _ _ hx=>LfA.mon.up (fun _ _=>rfl) (fun b hb=>hb.2) hx)
 have hB1:Below w.heap.size w w1:=hb0.trans (hb1.mono (by simp;omega))
 clear hl hb1 hb0
 go_loopw [5,11] (fun v i wr=>∃ k:Nat,k<=p.length/\i=.int .i64 k/\Hid (SlP wr wr.heap.size 5 (LfA wr (fun b=>b<wr.heap.size)) v (getL (t.lvs []) (p.take k)))/\Below w1.heap.size w1 wr) (fun _ i _=>p.length-(intOf i).toNat)
 case atStart=>exact⟨0,Nat.zero_le _,rfl,HL0,Below.refl _ _⟩
 case round=>
  obtain⟨k,hk,rfl,HS,hb⟩:=hrel
  have hsz:=hb.size
  have hB:Below w.heap.size w wr:=hB1.trans (hb.mono (by omega))
  have HLN:Hid ((getL (t.lvs []) (p.take k)).length<=100000):=Nat.le_trans (zQb _ _) hll.out
  by_cases hlt:k<p.length
  ·obtain⟨x,hx⟩:∃ x,p[k]?=some x:=⟨_,List.getElem?_eq_getElem hlt⟩
   obtain⟨b,off,rfl,hbB,hc⟩:=p3 (by rintro rfl;simp at hlt)
   obtain⟨cs,⟨rfl,hok⟩,_,hu⟩:=hc k _ hx
   have e0:wr.cell? ⟨b,off+k,none⟩=some (.string x):=(hB.cell (p:=⟨b,off+k,none⟩) hbB).trans (by simpa using hu 0 _ rfl)
   have HX:Hid (getL (t.lvs []) (p.take (k+1))=Qt (getL (t.lvs []) (p.take k)) x):=qK9 hx
   clear hu hc p3 hx
   go_wp2_with (go_at_call 81;refine (Jp _ x (fun _=>True) _ _ (HS.out.imp (Below.refl _ _) (Nat.le_refl _) (fun _ _ _ hx=>LfA.mon.up (fun _ _=>rfl) (fun b hb=>⟨trivial,hb⟩) hx)) (by have:=HLN.out;omega)).mono ?_;rintro e w2 ⟨vU,rfl,hU,hb2⟩)
   go_roundw
   case rel=>exact⟨k+1,by omega,by go_num,by rw[HX.out];exact (hU.sl LfA.mon (by have:=HLN.out;have:=Ye (getL (t.lvs []) (p.take k)) x;unfold Big;omega)).imp (Below.refl _ _) (Nat.le_refl _) (fun _ _ _ hx=>LfA.mon.up (fun _ _=>rfl) (fun b hb=>hb.2) hx),hb.trans (hb2.mono hsz)⟩
   case measure=>simp[intOf];omega
  ·obtain rfl:k=p.length:=by omega
   rw[List.take_of_length_le (Nat.le_refl _)]at HS HLN
   clear p3
   go_wp2_with (go_at_call 43;refine (Yq _ _ _ HS.out (by have:=HLN.out;omega)).mono ?_;rintro e w2 ⟨ve2,vk2,rfl,hrd,hb2⟩;obtain⟨Av,nv,Aw,nw,rfl,rfl⟩:=Ql hrd;have hbx:=hid ((hb2.block (w.heap.size+1) (by omega)).trans ((hb.block _ (by omega)).trans hbb.out));have d0:w2.cell? ⟨w.heap.size+1,0,none⟩=some (.slice none 0 0):=Qa (i:=0) hbx.out;have d1:w2.cell? ⟨w.heap.size+1,1,none⟩=some (.slice none 0 0):=Qa (i:=1) hbx.out;have z0:=Qb (i:=0) hbx.out;have z1:=Qb (i:=1) hbx.out)
   obtain⟨r0,r1,hrW,hsW⟩:=ZZ hbx.out hrd (fun b hb=>by have:=hb.1;omega)
   have hBW:Below w.heap.size w ((w2.setCell ⟨w.heap.size+1,0,none⟩ (.slice Av (QC (getL (t.lvs []) p)).es.length nv)).setCell ⟨w.heap.size+1,1,none⟩ (.slice Aw (QC (getL (t.lvs []) p)).ks.length nw)):=((hB.trans (hb2.mono (by omega))).setCell (by simp) _).setCell (by simp) _
   refine bodyPost_ret (v:=.agg #[.slice Av (QC (getL (t.lvs []) p)).es.length nv,.slice Aw (QC (getL (t.lvs []) p)).ks.length nw]) (by simp[results,Tryz.results50,go_sem,r0,r1]) rfl ⟨_,_,rfl,?_,hBW⟩
   exact Qs (fun _ _=>rfl) (fun b hb=>⟨by have:=hb.1;omega,by rw[hsW];exact hb.2⟩) _ _ _ hrW
theorem JK (a:ByteArray):ltS a ByteArray.empty=false:=by
 unfold ltS;rw[bytesLess_eq];simp
theorem Xo {a b:Dt}(h:a.lt b=false)(k:b.lt a=false):a=b:=by
 obtain⟨x,y⟩:=a
 obtain⟨u,v⟩:=b
 unfold Dt.lt at h k
 split at h<;>split at k<;>simp at *<;>omega
inductive Tr.Ord:Tr->Prop
 |mk {es:List En}{ks:List Kd}(h1:es.Pairwise fun a b=>a.dot.lt b.dot=true) (h2:ks.Pairwise fun a b=>ltS a.1 b.1=true) (h3:∀ k t,(k,t)∈ks->k≠ByteArray.empty/\t.empty=false) (h4:∀ k t,(k,t)∈ks->Tr.Ord t):Tr.Ord (.mk es ks)
theorem QQ {es:List En}{ks:List Kd}:Tr.Ord (.mk es ks)↔(es.Pairwise fun a b=>a.dot.lt b.dot=true)/\(ks.Pairwise fun a b=>ltS a.1 b.1=true)/\∀ k t,(k,t)∈ks->k≠ByteArray.empty/\t.empty=false/\t.Ord:=
 ⟨fun h=>by cases h with|mk h1 h2 h3 h4=>exact⟨h1,h2,fun k t hm=>⟨(h3 k t hm).1,(h3 k t hm).2,h4 k t hm⟩⟩,fun h=>.mk h.1 h.2.1 (fun k t hm=>⟨(h.2.2 k t hm).1,(h.2.2 k t hm).2.1⟩) fun k t hm=>(h.2.2 k t hm).2.2⟩
theorem Ord.mk' {es:List En}{ks:List Kd}(h1:es.Pairwise fun a b=>a.dot.lt b.dot=true)(h2:ks.Pairwise fun a b=>ltS a.1 b.1=true)(h3:∀ k t,(k,t)∈ks->k≠ByteArray.empty/\t.empty=false/\t.Ord):Tr.Ord (.mk es ks):=QQ.2 ⟨h1,h2,h3⟩
theorem VS:∀ (es:List En) (p:Option Dt),entsB p es=true->(es.Pairwise fun a b=>a.dot.lt b.dot=true)/\∀ e∈es,okP p e.dot=true
 |[],_,_=>⟨.nil,fun _ h=>by cases h⟩
 |e :: es,p,h=>by
  rw[ZE,Bool.and_eq_true,Bool.and_eq_true]at h
  obtain⟨h1,h2⟩:=VS es _ h.2
  refine⟨.cons (fun a ha=>h2 a ha) h1,fun a ha=>?_⟩
  rcases List.mem_cons.1 ha with rfl|ha
  ·exact h.1.2
  ·exact VO h.1.2 (h2 a ha)
theorem qVa {p:Option ByteArray}{a b:ByteArray}(h:okK p a=true)(k:ltS a b=true):okK p b=true:=by
 cases p with
 |none=>rfl
 |some q=>exact QF h k
theorem qZg {k:ByteArray}(h:keyB k=true):k≠ByteArray.empty:=fun e=>by
 subst e;simp[keyB]at h
theorem JL (d:Int):∀ (ks:List Kd) (p:Option ByteArray),Tr.rightL p ks d=true->(ks.Pairwise fun a b=>ltS a.1 b.1=true)/\(∀ x∈ks,okK p x.1=true)/\∀ k t,(k,t)∈ks->k≠ByteArray.empty/\t.empty=false/\t.right (d-1)=true
 |[],_,_=>⟨.nil,fun _ h=>(by cases h),fun _ _ h=>by cases h⟩
 |(k,t) :: ks,p,h=>by
  rw[QX,Bool.and_eq_true,Bool.and_eq_true,Bool.and_eq_true,Bool.and_eq_true]at h
  obtain⟨⟨⟨⟨a1,a2⟩,a3⟩,a4⟩,a5⟩:=h
  obtain⟨h1,h2,h3⟩:=JL d ks _ a5
  refine⟨.cons (fun a ha=>h2 a ha) h1,fun a ha=>?_,fun k' t' hm=>?_⟩
  ·rcases List.mem_cons.1 ha with rfl|ha
   ·exact a2
   ·exact qVa a2 (h2 a ha)
  ·rcases List.mem_cons.1 hm with e|hm
   ·cases e;exact⟨qZg a1,by simpa using a3,a4⟩
   ·exact h3 k' t' hm
theorem ZL:∀ (t:Tr) (d:Int),t.right d=true->t.Ord:=by
 intro t
 induction t using Tr.ind with
 |h es ks ih=>
 intro d h
 rw[Tr.right,Bool.and_eq_true,Bool.and_eq_true]at h
 obtain⟨h1,h2,h3⟩:=JL d ks none h.2
 exact Ord.mk' (VS es none h.1.2).1 h1 fun k t hm=>⟨(h3 k t hm).1,(h3 k t hm).2.1,ih k t hm _ (h3 k t hm).2.2⟩
/-! the leaves of a tree -/
mutual
theorem lvs_pre:∀ (t:Tr) (p q:List ByteArray),t.lvs (p++q)=(t.lvs q).map fun x=>(p++x.1,x.2)
 |.mk es ks,p,q=>by rw[Tr.lvs,Tr.lvs,List.map_append,List.map_map,lvsL_pre ks p q];rfl
theorem lvsL_pre:∀ (ks:List (ByteArray×Tr)) (p q:List ByteArray),Tr.lvsL ks (p++q)=(Tr.lvsL ks q).map fun x=>(p++x.1,x.2)
 |[],p,q=>rfl
 |(k,t) :: ks,p,q=>by rw[Tr.lvsL,Tr.lvsL,List.map_append,lvsL_pre ks p q,List.append_assoc,lvs_pre t p (q++[k])]
end
theorem JM (t:Tr)(p:List ByteArray):t.lvs p=(t.lvs []).map fun x=>(p++x.1,x.2):=by
 have:=lvs_pre t p [];simpa using this
theorem Vn {ks:List Kd}{p:List ByteArray}{x:Lf}:x∈Tr.lvsL ks p↔∃ k t,(k,t)∈ks/\x∈t.lvs (p++[k]):=by
 induction ks with
 |nil=>simp[Tr.lvsL]
 |cons y ks ih=>
  obtain⟨k,t⟩:=y
  rw[Tr.lvsL,List.mem_append,ih]
  constructor
  ·rintro (h|⟨k',t',hm,h⟩)
   ·exact⟨k,t,by simp,h⟩
   ·exact⟨k',t',by simp[hm],h⟩
  ·rintro⟨k',t',hm,h⟩
   rcases List.mem_cons.1 hm with e|hm
   ·cases e;exact .inl h
   ·exact .inr ⟨k',t',hm,h⟩
theorem Vo {es:List En}{ks:List Kd}{x:Lf}:x∈(Tr.mk es ks).lvs []↔(x.1=[]/\x.2∈es)∨∃ k t qs,(k,t)∈ks/\x.1=k :: qs/\(qs,x.2)∈t.lvs []:=by
 rw[Tr.lvs,List.mem_append,Vn]
 constructor
 ·rintro (h|⟨k,t,hm,h⟩)
  ·obtain⟨e,he,rfl⟩:=List.mem_map.1 h
   exact .inl ⟨rfl,he⟩
  ·rw[JM]at h
   obtain⟨y,hy,rfl⟩:=List.mem_map.1 h
   exact .inr ⟨k,t,y.1,hm,rfl,hy⟩
 ·obtain⟨p,e⟩:=x
  rintro (⟨h1,h2⟩|⟨k,t,qs,hm,h1,h2⟩)
  ·cases h1;exact .inl (List.mem_map.2 ⟨e,h2,rfl⟩)
  ·cases h1;exact .inr ⟨k,t,hm,by rw[JM];exact List.mem_map.2 ⟨(qs,e),h2,rfl⟩⟩
theorem Zv {es:List En}{ks:List Kd}{e:En}:(([],e):Lf)∈(Tr.mk es ks).lvs []↔e∈es:=by
 rw[Vo];simp
theorem Qv {es:List En}{ks:List Kd}{e:En}{k:ByteArray}{qs:List ByteArray}:((k :: qs,e):Lf)∈(Tr.mk es ks).lvs []↔∃ t,(k,t)∈ks/\(qs,e)∈t.lvs []:=by
 rw[Vo]
 constructor
 ·rintro (⟨h,_⟩|⟨k',t,qs',hm,h,h2⟩)
  ·cases h
  ·cases h;exact⟨t,hm,h2⟩
 ·rintro⟨t,hm,h⟩;exact .inr ⟨k,t,qs,hm,rfl,h⟩
theorem Xp:∀ (t:Tr),t.Ord->t.empty=false->∃ x,x∈t.lvs []:=by
 intro t
 induction t using Tr.ind with
 |h es ks ih=>
 intro h he
 obtain⟨_,_,h3⟩:=QQ.1 h
 cases es with
 |cons e es=>exact⟨([],e),Zv.2 (by simp)⟩
 |nil=>
  cases ks with
  |nil=>simp[Tr.empty]at he
  |cons y ks=>
   obtain⟨k,t⟩:=y
   obtain⟨x,hx⟩:=ih k t (by simp) (h3 k t (by simp)).2.2 (h3 k t (by simp)).2.1
   exact⟨(k :: x.1,x.2),Qv.2 ⟨t,by simp,hx⟩⟩
theorem Yg {α:Type}{r:α->α->Bool}(hi:∀ a,r a a=false)(ht:∀ a b c,r a b=true->r b c=true->r a c=true):∀ {l m:List α},(l.Pairwise fun a b=>r a b=true)->(m.Pairwise fun a b=>r a b=true)->(∀ x,x∈l↔x∈m)->l=m
 |[],[],_,_,_=>rfl
 |[],y :: m,_,_,h=>by have:=(h y).2 (by simp);cases this
 |x :: l,[],_,_,h=>by have:=(h x).1 (by simp);cases this
 |x :: l,y :: m,hl,hm,h=>by
  rw[List.pairwise_cons]at hl hm
  have hxy:x=y:=by
   rcases List.mem_cons.1 ((h x).1 (by simp)) with e|e
   ·exact e
   ·rcases List.mem_cons.1 ((h y).2 (by simp)) with e'|e'
    ·exact e'.symm
    ·have:=ht _ _ _ (hl.1 y e') (hm.1 x e);rw[hi]at this;cases this
  subst hxy
  congr 1
  refine Yg hi ht hl.2 hm.2 fun z=>?_
  constructor
  ·intro hz
   rcases List.mem_cons.1 ((h z).1 (List.mem_cons_of_mem _ hz)) with e|e
   ·subst e;have:=hl.1 z hz;rw[hi]at this;cases this
   ·exact e
  ·intro hz
   rcases List.mem_cons.1 ((h z).2 (List.mem_cons_of_mem _ hz)) with e|e
   ·subst e;have:=hm.1 z hz;rw[hi]at this;cases this
   ·exact e
theorem Xq {ks:List Kd}(h:ks.Pairwise fun a b=>ltS a.1 b.1=true){k:ByteArray}{s t:Tr}(hs:(k,s)∈ks)(ht:(k,t)∈ks):s=t:=by
 induction ks with
 |nil=>cases hs
 |cons y ks ih=>
  rw[List.pairwise_cons]at h
  rcases List.mem_cons.1 hs with e|hs
  ·rcases List.mem_cons.1 ht with e'|ht
   ·rw[←e]at e';cases e';rfl
   ·have:=h.1 _ ht;rw[←e]at this;simp only[Qx]at this;cases this
  ·rcases List.mem_cons.1 ht with e'|ht
   ·have:=h.1 _ hs;rw[←e']at this;simp only[Qx]at this;cases this
   ·exact ih h.2 hs ht
theorem qVb:∀ (s t:Tr),s.Ord->t.Ord->(∀ x,x∈s.lvs []↔x∈t.lvs [])->s=t:=by
 intro s
 induction s using Tr.ind with
 |h es ks ih=>
 intro t hs ht h
 obtain⟨es',ks'⟩:=t
 obtain⟨s1,s2,s3⟩:=QQ.1 hs
 obtain⟨t1,t2,t3⟩:=QQ.1 ht
 have he:es=es':=Yg (r:=fun a b:En=>a.dot.lt b.dot) (fun a=>Yf _) (fun _ _ _=>YB) s1 t1 fun e=>by
  rw[←Zv (ks:=ks),←Zv (ks:=ks')];exact h _
 have hk:∀ k s,(k,s)∈ks->(k,s)∈ks':=fun k s hm=>by
  obtain⟨h1,h2,h3⟩:=s3 k s hm
  obtain⟨x,hx⟩:=Xp s h3 h2
  obtain⟨u,hu,hxu⟩:=Qv.1 ((h (k :: x.1,x.2)).1 (Qv.2 ⟨s,hm,hx⟩))
  have:s=u:=ih k s hm u h3 (t3 k u hu).2.2 fun y=>by
   constructor
   ·intro hy
    obtain⟨v,hv,hyv⟩:=Qv.1 ((h (k :: y.1,y.2)).1 (Qv.2 ⟨s,hm,hy⟩))
    rw[Xq t2 hu hv];exact hyv
   ·intro hy
    obtain⟨v,hv,hyv⟩:=Qv.1 ((h (k :: y.1,y.2)).2 (Qv.2 ⟨u,hu,hy⟩))
    rw[Xq s2 hm hv];exact hyv
  rw[this];exact hu
 have hk':∀ k u,(k,u)∈ks'->(k,u)∈ks:=fun k u hm=>by
  obtain⟨h1,h2,h3⟩:=t3 k u hm
  obtain⟨x,hx⟩:=Xp u h3 h2
  obtain⟨s,hs',_⟩:=Qv.1 ((h (k :: x.1,x.2)).2 (Qv.2 ⟨u,hm,hx⟩))
  have:=Xq t2 hm (hk k s hs')
  rw[this];exact hs'
 have hkk:ks=ks':=Yg (r:=fun a b:Kd=>ltS a.1 b.1) (fun a=>Qx _) (fun _ _ _=>QF) s2 t2 fun ⟨k,t⟩=>⟨hk k t,hk' k t⟩
 rw[he,hkk]
/-! what Build takes -/
theorem qXw (l:List Lf)(last:Option Dt):∀ (b:Option En),(∀ c,b=some c->∃ e,l.foldl (selS last) b=some e/\c.dot.lt e.dot=false)/\∀ x∈l,x.1=[]->okP last x.2.dot=true->∃ e,l.foldl (selS last) b=some e/\x.2.dot.lt e.dot=false:=by
 induction l with
 |nil=>intro b;exact⟨fun c h=>⟨c,h,Yf _⟩,fun _ h=>by cases h⟩
 |cons y l ih=>
  intro b
  rw[List.foldl_cons]
  obtain⟨i1,i2⟩:=ih (selS last b y)
  refine⟨fun c hc=>?_,fun x hx h1 h2=>?_⟩
  ·subst hc
   by_cases hs:selC last (some c) y=true
   ·obtain⟨e,he,hle⟩:=i1 y.2 (by simp[selS,hs])
    refine⟨e,he,?_⟩
    simp only[selC,Bool.and_eq_true]at hs
    cases hce:c.dot.lt e.dot
    ·rfl
    ·rw[YB hs.2 hce]at hle;cases hle
   ·exact i1 c (by simp[selS,hs])
  ·rcases List.mem_cons.1 hx with rfl|hx
   ·cases b with
    |none=>
     have hs:selC last none x=true:=by simp[selC,h1,h2]
     exact i1 x.2 (by simp[selS,hs])
    |some c=>
     by_cases hs:selC last (some c) x=true
     ·exact i1 x.2 (by simp[selS,hs])
     ·obtain⟨e,he,hle⟩:=i1 c (by simp[selS,hs])
      refine⟨e,he,?_⟩
      have hxc:x.2.dot.lt c.dot=false:=by
       cases hxc:x.2.dot.lt c.dot
       ·rfl
       ·exact absurd (by simp[selC,h1,h2,hxc]) hs
      cases hxe:x.2.dot.lt e.dot
      ·rfl
      ·cases hec:e.dot.lt c.dot
       ·have:=Xo hec hle;rw[this]at hxe;rw[hxe]at hxc;cases hxc
       ·rw[YB hxe hec]at hxc;cases hxc
   ·exact i2 x hx h1 h2
theorem JO (l:List Lf):∀ (n:Nat) (es:List En),ahE l (es.getLast?.map En.dot)<n->(es.Pairwise fun a b=>a.dot.lt b.dot=true)->(∀ e∈es,(([],e):Lf)∈l)->(∀ x∈l,x.1=[]->okP (es.getLast?.map En.dot) x.2.dot=false->∃ e∈es,e.dot=x.2.dot) ->
  ((Xj l n es).Pairwise fun a b=>a.dot.lt b.dot=true)/\(∀ e∈Xj l n es,(([],e):Lf)∈l)/\∀ x∈l,x.1=[]->∃ e∈Xj l n es,e.dot=x.2.dot
 |0,_,h,_,_,_=>absurd h (Nat.not_lt_zero _)
 |n+1,es,h,h1,h2,h3=>by
  rw[Xj]
  cases hb:bestE l (es.getLast?.map En.dot) with
  |none=>
   refine⟨h1,h2,fun x hx hx1=>?_⟩
   cases ho:okP (es.getLast?.map En.dot) x.2.dot
   ·exact h3 x hx hx1 ho
   ·obtain⟨e,he,_⟩:=(qXw l (es.getLast?.map En.dot) none).2 x hx hx1 ho
    unfold bestE at hb;rw[hb]at he;cases he
  |some e=>
   obtain⟨⟨y,hy,hy1,hy2⟩,hok⟩:=XZ hb
   have hle:(es++[e]).getLast?.map En.dot=some e.dot:=by simp
   refine JO l n (es++[e]) ?_ ?_ ?_ ?_
   ·rw[hle];have:=zZr hb;omega
   ·rw[List.pairwise_append]
    refine⟨h1,List.pairwise_singleton _ _,fun a ha b hb'=>?_⟩
    rw[List.mem_singleton]at hb';subst hb'
    rcases List.eq_nil_or_concat es with rfl|⟨es',z,rfl⟩
    ·cases ha
    ·rw[List.concat_eq_append]at *
     rw[List.getLast?_append]at hok
     have hz:z.dot.lt b.dot=true:=hok
     rcases List.mem_append.1 ha with ha|ha
     ·exact YB ((List.pairwise_append.1 h1).2.2 a ha z (by simp)) hz
     ·rw[List.mem_singleton]at ha;subst ha;exact hz
   ·intro a ha
    rcases List.mem_append.1 ha with ha|ha
    ·exact h2 a ha
    ·rw[List.mem_singleton]at ha;subst ha
     obtain⟨p,e'⟩:=y
     simp only at hy1 hy2;subst hy1;subst hy2;exact hy
   ·intro x hx hx1 ho
    rw[hle]at ho
    have ho:e.dot.lt x.2.dot=false:=ho
    cases ho':okP (es.getLast?.map En.dot) x.2.dot
    ·obtain⟨a,ha,hae⟩:=h3 x hx hx1 ho'
     exact⟨a,List.mem_append_left _ ha,hae⟩
    ·obtain⟨e',he',hm⟩:=(qXw l (es.getLast?.map En.dot) none).2 x hx hx1 ho'
     unfold bestE at hb;rw[hb]at he';cases he'
     exact⟨e,by simp,Xo ho hm⟩
theorem VT (l:List Lf):((Z9 l).Pairwise fun a b=>a.dot.lt b.dot=true)/\(∀ e∈Z9 l,(([],e):Lf)∈l)/\∀ x∈l,x.1=[]->∃ e∈Z9 l,e.dot=x.2.dot:=
 JO l _ [] (by have:=qKx l (([]:List En).getLast?.map En.dot);omega) .nil (fun _ h=>by cases h) (fun x _ _ h=>by simp[okP]at h)
theorem qXx (l:List Lf)(last:ByteArray):∀ (b:ByteArray),(b≠ByteArray.empty->l.foldl (keyS last) b≠ByteArray.empty/\ltS b (l.foldl (keyS last) b)=false)/\∀ x∈l,∀ q qs,x.1=q :: qs->ltS last q=true->l.foldl (keyS last) b≠ByteArray.empty/\ltS q (l.foldl (keyS last) b)=false:=by
 induction l with
 |nil=>intro b;exact⟨fun h=>⟨h,Qx _⟩,fun _ h=>by cases h⟩
 |cons y l ih=>
  intro b
  rw[List.foldl_cons]
  obtain⟨i1,i2⟩:=ih (keyS last b y)
  have hne:∀ q:ByteArray,ltS last q=true->q≠ByteArray.empty:=fun q h e=>by rw[e,JK]at h;cases h
  refine⟨fun hb=>?_,fun x hx q qs h1 h2=>?_⟩
  ·by_cases hs:keyC last b y=true
   ·obtain⟨p,e⟩:=y
    cases p with
    |nil=>simp[keyC]at hs
    |cons q qs=>
     have e1:keyS last b (q :: qs,e)=q:=by simp[keyS,hs]
     rw[e1]at i1 ⊢
     simp only[keyC,Bool.and_eq_true,Bool.or_eq_true,decide_eq_true_eq]at hs
     obtain⟨j1,j2⟩:=i1 (hne q hs.1)
     refine⟨j1,?_⟩
     cases hc:ltS b (l.foldl (keyS last) q)
     ·rfl
     ·rcases hs.2 with h|h
      ·exact absurd h hb
      ·rw[QF h hc]at j2;cases j2
   ·have e1:keyS last b y=b:=by simp[keyS,hs]
    rw[e1]at i1 ⊢;exact i1 hb
  ·rcases List.mem_cons.1 hx with rfl|hx
   ·obtain⟨p,e⟩:=x
    simp only at h1;subst h1
    by_cases hs:keyC last b (q :: qs,e)=true
    ·have e1:keyS last b (q :: qs,e)=q:=by simp[keyS,hs]
     rw[e1]at i1 ⊢;exact i1 (hne q h2)
    ·have e1:keyS last b (q :: qs,e)=b:=by simp[keyS,hs]
     rw[e1]at i1 ⊢
     simp only[keyC,h2,Bool.true_and,Bool.or_eq_true,decide_eq_true_eq,not_or]at hs
     obtain⟨j1,j2⟩:=i1 hs.1
     refine⟨j1,?_⟩
     cases hc:ltS q (l.foldl (keyS last) b)
     ·rfl
     ·have hqb:ltS q b=false:=by simpa using hs.2
      cases hcb:ltS (l.foldl (keyS last) b) b
      ·have:=ZI hcb j2;rw[this]at hc;rw[hc]at hqb;cases hqb
      ·rw[QF hc hcb]at hqb;cases hqb
   ·exact i2 x hx q qs h1 h2
theorem JP (f:List Lf->Tr)(l:List Lf):∀ (n:Nat) (last:ByteArray),ahK l last<n->((ZJ f l n last).Pairwise fun a b=>ltS a.1 b.1=true) /\
  (∀ k t,(k,t)∈ZJ f l n last->ltS last k=true/\t=f (Qt l k)/\∃ x∈l,∃ qs,x.1=k :: qs)/\∀ x∈l,∀ q qs,x.1=q :: qs->ltS last q=true->(q,f (Qt l q))∈ZJ f l n last
 |0,_,h=>absurd h (Nat.not_lt_zero _)
 |n+1,last,h=>by
  rw[ZJ]
  by_cases hb:bestK l last=ByteArray.empty
  ·rw[if_pos hb]
   refine⟨.nil,fun _ _ h=>(by cases h),fun x hx q qs h1 h2=>?_⟩
   exact absurd hb ((qXx l last ByteArray.empty).2 x hx q qs h1 h2).1
  ·rw[if_neg hb]
   obtain⟨hm,hlt⟩:=X0 hb
   obtain⟨i1,i2,i3⟩:=JP f l n (bestK l last) (by have:=zZs hb;omega)
   refine⟨.cons (fun a ha=>(i2 a.1 a.2 ha).1) i1,fun k t hkt=>?_,fun x hx q qs h1 h2=>?_⟩
   ·rcases List.mem_cons.1 hkt with e|e
    ·cases e;exact⟨hlt,rfl,hm⟩
    ·obtain⟨j1,j2,j3⟩:=i2 k t e
     exact⟨QF hlt j1,j2,j3⟩
   ·obtain⟨_,hmin⟩:=(qXx l last ByteArray.empty).2 x hx q qs h1 h2
    cases hq:ltS (bestK l last) q
    ·have:=ZI hq hmin
     rw[←this];exact List.mem_cons_self
    ·exact List.mem_cons_of_mem _ (i3 x hx q qs h1 hq)
theorem Zr {l:List Lf}{q:ByteArray}{qs:List ByteArray}{e:En}:((qs,e):Lf)∈Qt l q↔((q :: qs,e):Lf)∈l:=by
 unfold Qt
 rw[List.mem_filterMap]
 constructor
 ·rintro⟨⟨p,e'⟩,hx,hu⟩
  cases p with
  |nil=>simp[Yd]at hu
  |cons a ps=>
   by_cases ha:a=q
   ·simp[Yd,ha]at hu;obtain⟨rfl,rfl⟩:=hu;rw[←ha];exact hx
   ·simp[Yd,ha]at hu
 ·intro h;exact⟨_,h,by simp[Yd]⟩
structure LvOk (l:List Lf):Prop where
 key:∀ x∈l,∀ k∈x.1,k≠ByteArray.empty
 one:∀ x∈l,∀ y∈l,x.1=y.1->x.2.dot=y.2.dot->x=y
theorem LvOk.under {l:List Lf}(h:LvOk l)(q:ByteArray):LvOk (Qt l q):=
 ⟨fun x hx k hk=>h.key (q :: x.1,x.2) (Zr.1 hx) k (List.mem_cons_of_mem _ hk),fun x hx y hy h1 h2=>by
  have:=h.one (q :: x.1,x.2) (Zr.1 hx) (q :: y.1,y.2) (Zr.1 hy) (by rw[h1]) h2
  obtain⟨p,e⟩:=x
  obtain⟨p',e'⟩:=y
  simp only[Prod.mk.injEq,List.cons.injEq,true_and]at this
  rw[this.1,this.2]⟩
def topT (d:Nat):List Lf->Tr:=match d with|0=>fun _=>.mk [] []|d+1=>JH d
theorem qVc (d:Nat)(l:List Lf):JH d l=.mk (Z9 l) (ZJ (topT d) l (l.length+1) ByteArray.empty):=by
 cases d<;>rfl
theorem KL:∀ (d:Nat) (l:List Lf),(∀ x∈l,x.1.length<=d)->LvOk l->(JH d l).Ord/\∀ x,x∈(JH d l).lvs []↔x∈l
 |d,l,hd,hl=>by
  rw[qVc]
  obtain⟨e1,e2,e3⟩:=VT l
  obtain⟨k1,k2,k3⟩:=JP (topT d) l (l.length+1) ByteArray.empty (by have:=qKz l ByteArray.empty;omega)
  have hne:∀ q:ByteArray,q≠ByteArray.empty->ltS ByteArray.empty q=true:=fun q h=>by
   cases hq:ltS ByteArray.empty q
   ·exact absurd (ZI (JK q) hq) h
   ·rfl
  have ih:∀ k t,(k,t)∈ZJ (topT d) l (l.length+1) ByteArray.empty->t.Ord/\(∀ x,x∈t.lvs []↔x∈Qt l k)/\∃ x,x∈Qt l k:=fun k t hm=>by
   obtain⟨h1,h2,x,hx,qs,h3⟩:=k2 k t hm
   have hu:((qs,x.2):Lf)∈Qt l k:=Zr.2 (by rw[←h3];exact hx)
   cases d with
   |zero=>have:=hd x hx;rw[h3]at this;simp at this
   |succ d=>
    obtain⟨i1,i2⟩:=KL d (Qt l k) (fun y hy=>by have:=hd _ (Zr.1 hy);simp at this;exact this) (hl.under k)
    rw[h2];exact⟨i1,i2,_,hu⟩
  refine⟨Ord.mk' e1 k1 fun k t hm=>?_,fun x=>?_⟩
  ·obtain⟨i1,i2,x,hx⟩:=ih k t hm
   refine⟨fun e=>?_,?_,i1⟩
   ·have:=(k2 k t hm).1;rw[e,JK]at this;cases this
   ·cases he:t.empty
    ·rfl
    ·obtain⟨es,ks⟩:=t
     simp[Tr.empty]at he
     obtain⟨rfl,rfl⟩:=he
     have:=(i2 x).2 hx
     simp[Tr.lvs,Tr.lvsL]at this
  ·obtain⟨p,e⟩:=x
   cases p with
   |nil=>
    rw[Zv]
    constructor
    ·exact e2 e
    ·intro h
     obtain⟨e',he',hd'⟩:=e3 _ h rfl
     have:=hl.one _ (e2 e' he') _ h rfl hd'
     cases this;exact he'
   |cons k qs=>
    rw[Qv]
    constructor
    ·rintro⟨t,hm,h⟩
     exact Zr.1 (((ih k t hm).2.1 _).1 h)
    ·intro h
     have hm:=k3 _ h k qs rfl (hne k (hl.key _ h k (by simp)))
     exact⟨_,hm,((ih k _ hm).2.1 _).2 (Zr.2 h)⟩
theorem qZh {l:List Lf}(h:LvOk l):(QC l).Ord/\∀ x,x∈(QC l).lvs []↔x∈l:=KL _ l (fun _ hx=>qXv hx) h
theorem Xr:∀ (t:Tr),t.Ord->LvOk (t.lvs []):=by
 intro t
 induction t using Tr.ind with
 |h es ks ih=>
 intro h
 obtain⟨h1,h2,h3⟩:=QQ.1 h
 refine⟨fun x hx k hk=>?_,fun x hx y hy hp hd=>?_⟩
 ·rcases Vo.1 hx with⟨hn,_⟩|⟨k',t,qs,hm,hq,hl⟩
  ·rw[hn]at hk;cases hk
  ·rw[hq]at hk
   rcases List.mem_cons.1 hk with rfl|hk
   ·exact (h3 _ t hm).1
   ·exact (ih k' t hm (h3 k' t hm).2.2).key _ hl k hk
 ·obtain⟨p,e⟩:=x
  obtain⟨p',e'⟩:=y
  simp only at hp hd;subst hp
  cases p with
  |nil=>
   have a:=Zv.1 hx
   have b:=Zv.1 hy
   have:e=e':=by
    clear hx hy h ih h2 h3
    induction es with
    |nil=>cases a
    |cons z es ih=>
     rw[List.pairwise_cons]at h1
     rcases List.mem_cons.1 a with a'|a'
     ·rcases List.mem_cons.1 b with b'|b'
      ·rw[a',b']
      ·have:=h1.1 _ b';rw[←hd,a',Yf]at this;cases this
     ·rcases List.mem_cons.1 b with b'|b'
      ·have:=h1.1 _ a';rw[hd,b',Yf]at this;cases this
      ·exact ih h1.2 a' b'
   rw[this]
  |cons k qs=>
   obtain⟨t,hm,ha⟩:=Qv.1 hx
   obtain⟨t',hm',hb⟩:=Qv.1 hy
   rw[Xq h2 hm' hm]at hb
   have:=(ih k t hm (h3 k t hm).2.2).one _ ha _ hb rfl hd
   cases this;rfl
theorem Vp {t:Tr}{l:List Lf}(h:t.Ord)(hl:LvOk l)(he:∀ x,x∈l↔x∈t.lvs []):QC l=t:=by
 obtain⟨h1,h2⟩:=qZh hl
 exact qVb _ _ h1 h fun x=>(h2 x).trans (he x)
def kidT (t:Tr)(s:ByteArray):Tr:=match t.ks.find? fun x=>decide (x.1=s) with|some x=>x.2|none=>.mk [] []
def getK (t:Tr)(p:List ByteArray):Tr:=p.foldl kidT t
theorem qZi:Tr.Ord (.mk [] []):=Ord.mk' .nil .nil fun _ _ h=>by cases h
theorem YS {t:Tr}(h:t.Ord){s:ByteArray}{u:Tr}(hm:(s,u)∈t.ks):kidT t s=u:=by
 obtain⟨es,ks⟩:=t
 unfold kidT
 cases hf:(Tr.mk es ks).ks.find? fun x=>decide (x.1=s) with
 |none=>
  have:=List.find?_eq_none.1 hf _ hm
  simp at this
 |some x=>
  have h1:=List.find?_some hf
  have h2:=List.mem_of_find?_eq_some hf
  simp at h1
  obtain⟨k,v⟩:=x
  simp only at h1;subst h1
  exact Xq (QQ.1 h).2.1 h2 hm
theorem YD {t:Tr}{s:ByteArray}(h:∀ u,(s,u)∉t.ks):kidT t s=.mk [] []:=by
 unfold kidT
 rw[List.find?_eq_none.2]
 rintro⟨k,u⟩ hm e
 simp at e;subst e
 exact h u hm
theorem ZB {t:Tr}(h:t.Ord)(s:ByteArray):(kidT t s).Ord:=by
 by_cases hm:∃ u,(s,u)∈t.ks
 ·obtain⟨u,hm⟩:=hm
  rw[YS h hm]
  obtain⟨es,ks⟩:=t
  exact ((QQ.1 h).2.2 s u hm).2.2
 ·rw[YD fun u hu=>hm ⟨u,hu⟩];exact qZi
theorem Xs {t:Tr}(h:t.Ord){s:ByteArray}{qs:List ByteArray}{e:En}:((qs,e):Lf)∈(kidT t s).lvs []↔((s :: qs,e):Lf)∈t.lvs []:=by
 obtain⟨es,ks⟩:=t
 rw[Qv]
 constructor
 ·intro hx
  by_cases hm:∃ u,(s,u)∈(Tr.mk es ks).ks
  ·obtain⟨u,hm⟩:=hm
   rw[YS h hm]at hx
   exact⟨u,hm,hx⟩
  ·rw[YD fun u hu=>hm ⟨u,hu⟩]at hx;simp[Tr.lvs,Tr.lvsL]at hx
 ·rintro⟨u,hm,hx⟩
  rw[YS h (show (s,u)∈(Tr.mk es ks).ks from hm)];exact hx
theorem qXy:∀ (p:List ByteArray) (l:List Lf) (t:Tr),t.Ord->LvOk l->(∀ x,x∈l↔x∈t.lvs [])->QC (getL l p)=getK t p
 |[],l,t,h,hl,he=>Vp h hl he
 |s :: p,l,t,h,hl,he=>by
  show QC (getL (Qt l s) p)=getK (kidT t s) p
  exact qXy p (Qt l s) (kidT t s) (ZB h s) (hl.under s) fun ⟨qs,e⟩=>by rw[Zr,he,Xs h]
theorem Vq {t:Tr}(h:t.Ord)(p:List ByteArray):getT t p=getK t p:=qXy p _ t h (Xr t h) fun _=>Iff.rfl
theorem qXz {s:ByteArray}:∀ {ks:List Kd}{x:Kd},ks.find? (fun x=>decide (x.1=s))=some x->x.2.sz<=Tr.szL ks
 |(k,t) :: ks,x,h=>by
  rw[Tr.szL]
  rw[List.find?_cons]at h
  split at h
  ·cases h;simp;omega
  ·have:=qXz h;omega
theorem YE (t:Tr)(s:ByteArray):(kidT t s).sz<=t.sz:=by
 obtain⟨es,ks⟩:=t
 unfold kidT
 cases hf:(Tr.mk es ks).ks.find? fun x=>decide (x.1=s) with
 |none=>simp[Tr.sz,Tr.szL]
 |some x=>
  have:=qXz (show ks.find? _=some x from hf)
  rw[Tr.sz];simp only;omega
theorem KM {t:Tr}{n:Int}(h:t.right (n+1)=true)(hn:1<=n)(s:ByteArray):(kidT t s).right n=true:=by
 by_cases hm:∃ u,(s,u)∈t.ks
 ·obtain⟨u,hm⟩:=hm
  rw[YS (ZL t _ h) hm]
  obtain⟨es,ks⟩:=t
  rw[Tr.right,Bool.and_eq_true,Bool.and_eq_true]at h
  have:=((JL _ ks none h.2).2.2 s u hm).2.2
  simpa using this
 ·rw[YD fun u hu=>hm ⟨u,hu⟩]
  rw[Tr.right];simp[entsB,Tr.rightL];omega
theorem qX0:∀ (t:Tr) (n m:Int),t.right n=true->n<=m->t.right m=true:=by
 intro t
 induction t using Tr.ind with
 |h es ks ih=>
 intro n m h hnm
 rw[Tr.right,Bool.and_eq_true,Bool.and_eq_true,decide_eq_true_eq]at h ⊢
 refine⟨⟨by omega,h.1.2⟩,?_⟩
 have:∀ (p:Option ByteArray) (ks:List Kd),(∀ k t,(k,t)∈ks->∀ n m:Int,t.right n=true->n<=m->t.right m=true)->Tr.rightL p ks n=true->Tr.rightL p ks m=true:=by
  intro p ks
  induction ks generalizing p with
  |nil=>intro _ _;cases p<;>rfl
  |cons x ks ih'=>
   obtain⟨k,t⟩:=x
   intro hi h
   rw[QX,Bool.and_eq_true,Bool.and_eq_true]at h ⊢
   exact⟨⟨h.1.1,hi k t (by simp) _ _ h.1.2 (by omega)⟩,ih' (some k) (fun k t hm=>hi k t (by simp[hm])) h.2⟩
 exact this none ks ih h.2
theorem Qp (w:World)(ok:Nat->Prop):(Tr.mk [] []).rda w ok (.slice none 0 0) (.slice none 0 0):=by
 rw[Zh]
 exact⟨⟨none,0,rfl,Nat.le_refl _,by simp,fun h=>absurd rfl h⟩,⟨none,0,rfl,Nat.le_refl _,by simp,fun h=>absurd rfl h⟩⟩
theorem box3 {w:World}{g:Nat}{x y z:Value}{e:TypeId}(hbx:w.heap[g]?=some (.cells #[x,y,z] e (0,0)))(a b c:Value) :
  (((w.setCell ⟨g,0,none⟩ a).setCell ⟨g,1,none⟩ b).setCell ⟨g,2,none⟩ c).cell? ⟨g,0,none⟩=some a/\(((w.setCell ⟨g,0,none⟩ a).setCell ⟨g,1,none⟩ b).setCell ⟨g,2,none⟩ c).cell? ⟨g,1,none⟩=some b/\(((w.setCell ⟨g,0,none⟩ a).setCell ⟨g,1,none⟩ b).setCell ⟨g,2,none⟩ c).cell? ⟨g,2,none⟩=some c /\
   (∀ k,k≠g->(((w.setCell ⟨g,0,none⟩ a).setCell ⟨g,1,none⟩ b).setCell ⟨g,2,none⟩ c).heap[k]?=w.heap[k]?)/\(((w.setCell ⟨g,0,none⟩ a).setCell ⟨g,1,none⟩ b).setCell ⟨g,2,none⟩ c).heap.size=w.heap.size:=by
 have hW:=Qe (i:=2) (Qe (i:=1) (Qe (i:=0) hbx a) b) c
 exact⟨(Qa (i:=0) hW).trans (by simp),(Qa (i:=1) hW).trans (by simp),(Qa (i:=2) hW).trans (by simp),
  fun k hk=>(Below.heap_setCell _ _ _ _ hk).trans ((Below.heap_setCell _ _ _ _ hk).trans (Below.heap_setCell _ _ _ _ hk)),by simp[World.setCell]⟩
def RetC (w:World)(t:Tr)(c:List Sp)(e:Ending)(w':World):Prop:=
 ∃ ve vk vc,e=.returned (.agg #[ve,vk,vc])/\t.rda w' (fun b=>w.heap.size<=b/\b<w'.heap.size) ve vk/\SlA w' (fun b=>w.heap.size<=b/\b<w'.heap.size) 3 SpE vc c/\Below w.heap.size w w'
theorem zQe {w:World}{p:List ByteArray}{x:En}{A:Option Addr}{c:Nat}{okq:Nat->Prop}{B:Nat}(h:SlP w w.heap.size 1 StE (.slice A p.length c) p)(hx:x.Ok)(hok:∀ b,b<w.heap.size->okq b)(e:TypeId)(hB:w.heap.size<B) :
  SlP (w.alloc (.cells #[.slice A p.length c,.int .i64 x.dc,.int .i64 x.n,.string x.s,.int .i64 x.v] e)) B 5 (LfA (w.alloc (.cells #[.slice A p.length c,.int .i64 x.dc,.int .i64 x.n,.string x.s,.int .i64 x.v] e)) okq) (.slice (some ⟨w.heap.size,0,none⟩) 1 1) [(p,x)]:=
 SlP.oneB (x:=(p,x)) (cs:=[.slice A p.length c,.int .i64 x.dc,.int .i64 x.n,.string x.s,.int .i64 x.v]) ⟨A,c,rfl,(Z8.1 h).up (fun _ hb=>Qg hb) (fun b hb=>hok b hb) (fun _ _ _ h=>h),hx⟩ rfl e rfl hB
theorem KQ (p:List ByteArray)(x:En)(c:List Sp)(vp vc:Value)(w:World)(hx:x.Ok)(hp:SlP w w.heap.size 1 StE vp p)(h:SlP w w.heap.size 3 SpE vc c)(hN:c.length<=50000)(hR:SpsOk c)(hR':SpsOk [⟨x.dc,x.n,x.n⟩]) :
  Calls Tryz.prog 107 #[vp,.agg #[.int .i64 x.dc,.int .i64 x.n,.string x.s,.int .i64 x.v],vc] w (RetC w (QC [(p,x)]) (ctxBy c [⟨x.dc,x.n,x.n⟩] 0)):=by
 obtain⟨Ap,cp,rfl,q1,q2,q3⟩:=hp
 have hp:SlP w w.heap.size 1 StE (.slice Ap p.length cp) p:=⟨Ap,cp,rfl,q1,q2,q3⟩
 obtain⟨A,n,rfl,p1,p2,p3⟩:=h
 have h:SlP w w.heap.size 3 SpE (.slice A c.length n) c:=⟨A,n,rfl,p1,p2,p3⟩
 have HB:Hid (∀ w',Below (w.heap.size+1+1) ((w.alloc (.cells #[.int .i64 x.dc,.int .i64 x.n,.string x.s,.int .i64 x.v] 80)).alloc (.cells #[.slice none 0 0,.slice none 0 0,.slice none 0 0] 29)) w'->Below w.heap.size w w'/\(w'.cell? ⟨w.heap.size,0,none⟩=some (.int .i64 x.dc)/\w'.cell? ⟨w.heap.size,1,none⟩=some (.int .i64 x.n)/\w'.cell? ⟨w.heap.size,2,none⟩=some (.string x.s)/\w'.cell? ⟨w.heap.size,3,none⟩=some (.int .i64 x.v))/\w'.heap[w.heap.size+1]?=some (.cells #[.slice none 0 0,.slice none 0 0,.slice none 0 0] 29 (0,0))/\SlP w' w'.heap.size 1 StE (.slice Ap p.length cp) p/\SlP w' w'.heap.size 3 SpE (.slice A c.length n) c/\w.heap.size+1+1<=w'.heap.size):=fun w' hb=>by
  have hB:Below w.heap.size w w':=(((Below.refl _ w).alloc (Nat.le_refl _) _).alloc (by simp) _).trans (hb.mono (by omega))
  refine⟨hB,⟨?_,?_,?_,?_⟩,?_,hp.imp hB hB.size (fun _ _ _ h=>h),h.imp hB hB.size (fun _ _ _ h=>h),by have:=hb.size;simpa using this⟩
  ·rw[hb.cell (p:=⟨w.heap.size,0,none⟩) (by simp;omega),World.cell?_alloc_past _ _ _ (by simp),World.cell?_alloc_new];rfl
  ·rw[hb.cell (p:=⟨w.heap.size,1,none⟩) (by simp;omega),World.cell?_alloc_past _ _ _ (by simp),World.cell?_alloc_new];rfl
  ·rw[hb.cell (p:=⟨w.heap.size,2,none⟩) (by simp;omega),World.cell?_alloc_past _ _ _ (by simp),World.cell?_alloc_new];rfl
  ·rw[hb.cell (p:=⟨w.heap.size,3,none⟩) (by simp;omega),World.cell?_alloc_past _ _ _ (by simp),World.cell?_alloc_new];rfl
  ·exact (hb.block (w.heap.size+1) (by omega)).trans (Qd (by simp))
 have HLC:Hid ((ctxBy c [⟨x.dc,x.n,x.n⟩] 0).length<=Big):=by have:=Zj c [⟨x.dc,x.n,x.n⟩] 0 4;unfold Hid ctxBy Big;simp at this;omega
 have HX:=hid hx
 have hb00:Below (w.heap.size+1+1) ((w.alloc (.cells #[.int .i64 x.dc,.int .i64 x.n,.string x.s,.int .i64 x.v] 80)).alloc (.cells #[.slice none 0 0,.slice none 0 0,.slice none 0 0] 29)) (World.drew ((w.alloc (.cells #[.int .i64 x.dc,.int .i64 x.n,.string x.s,.int .i64 x.v] 80)).alloc (.cells #[.slice none 0 0,.slice none 0 0,.slice none 0 0] 29))):=(Below.refl _ _).drew
 have HLF:Hid (Calls Tryz.prog 43 #[.slice (some ⟨w.heap.size+1+1,0,none⟩) 1 1] ((World.drew ((w.alloc (.cells #[.int .i64 x.dc,.int .i64 x.n,.string x.s,.int .i64 x.v] 80)).alloc (.cells #[.slice none 0 0,.slice none 0 0,.slice none 0 0] 29))).alloc (.cells #[.slice Ap p.length cp,.int .i64 x.dc,.int .i64 x.n,.string x.s,.int .i64 x.v] 91)) (RetT ((World.drew ((w.alloc (.cells #[.int .i64 x.dc,.int .i64 x.n,.string x.s,.int .i64 x.v] 80)).alloc (.cells #[.slice none 0 0,.slice none 0 0,.slice none 0 0] 29))).alloc (.cells #[.slice Ap p.length cp,.int .i64 x.dc,.int .i64 x.n,.string x.s,.int .i64 x.v] 91)) (QC [(p,x)]))):=
  Yq [(p,x)] _ _ (by
   have:=zQe (w:=World.drew ((w.alloc (.cells #[.int .i64 x.dc,.int .i64 x.n,.string x.s,.int .i64 x.v] 80)).alloc (.cells #[.slice none 0 0,.slice none 0 0,.slice none 0 0] 29))) (okq:=fun b=>b<((World.drew ((w.alloc (.cells #[.int .i64 x.dc,.int .i64 x.n,.string x.s,.int .i64 x.v] 80)).alloc (.cells #[.slice none 0 0,.slice none 0 0,.slice none 0 0] 29))).alloc (.cells #[.slice Ap p.length cp,.int .i64 x.dc,.int .i64 x.n,.string x.s,.int .i64 x.v] 91)).heap.size) (B:=((World.drew ((w.alloc (.cells #[.int .i64 x.dc,.int .i64 x.n,.string x.s,.int .i64 x.v] 80)).alloc (.cells #[.slice none 0 0,.slice none 0 0,.slice none 0 0] 29))).alloc (.cells #[.slice Ap p.length cp,.int .i64 x.dc,.int .i64 x.n,.string x.s,.int .i64 x.v] 91)).heap.size) (HB.out _ hb00).2.2.2.1 hx (fun b hb=>by rw[World.size_alloc];exact Nat.lt_succ_of_lt hb) 91 (by rw[World.size_alloc];exact Nat.lt_succ_self _)
   simpa using this) (by simp)
 have HB1:Hid (∀ w1,Below ((World.drew ((w.alloc (.cells #[.int .i64 x.dc,.int .i64 x.n,.string x.s,.int .i64 x.v] 80)).alloc (.cells #[.slice none 0 0,.slice none 0 0,.slice none 0 0] 29))).alloc (.cells #[.slice Ap p.length cp,.int .i64 x.dc,.int .i64 x.n,.string x.s,.int .i64 x.v] 91)).heap.size ((World.drew ((w.alloc (.cells #[.int .i64 x.dc,.int .i64 x.n,.string x.s,.int .i64 x.v] 80)).alloc (.cells #[.slice none 0 0,.slice none 0 0,.slice none 0 0] 29))).alloc (.cells #[.slice Ap p.length cp,.int .i64 x.dc,.int .i64 x.n,.string x.s,.int .i64 x.v] 91)) w1->Below (w.heap.size+1+1) ((w.alloc (.cells #[.int .i64 x.dc,.int .i64 x.n,.string x.s,.int .i64 x.v] 80)).alloc (.cells #[.slice none 0 0,.slice none 0 0,.slice none 0 0] 29)) w1):=fun w1 hb=>(hb00.alloc (by simp) _).trans (hb.mono (by simp))
 clear h hp q3 p3 hx hb00
 go_enter Tryz.func107,Tryz.ntmps107
 go_upto_region 1 with (fail)
 go_region_held3 (fun w'=>w'.cell? ⟨w.heap.size,0,none⟩=some (.int .i64 x.dc)/\w'.cell? ⟨w.heap.size,1,none⟩=some (.int .i64 x.n)/\w'.cell? ⟨w.heap.size,2,none⟩=some (.string x.s)/\w'.cell? ⟨w.heap.size,3,none⟩=some (.int .i64 x.v))
  (first|go_keep|exact (HB.out _ hb3.out).2.1|exact (HB.out _ hb2.out).2.1|exact (HB.out _ hb1.out).2.1)
  (first
      |(go_at_call 43;go_loud ((refine HLF.out.mono ?_);rintro e w1 ⟨ve1,vk1,rfl,hrd,hb⟩;obtain⟨Av,nv,Aw,nw,hv1,hv2⟩:=Ql hrd;subst hv1;subst hv2;have hb1:=hid (HB1.out w1 hb);have hbz:=hid hb;clear hb))
      |(go_at_call 151;go_loud ((refine (KP x.dot w1 ⟨HX.out.dc,HX.out.n⟩).mono ?_);rintro e w2 ⟨v2,rfl,ho2,hb⟩;have hsl:=ho2.sl (by simp[Big]);obtain⟨A2,c2,hv2⟩:=ho2.shape;subst hv2;have hbt:=hid hb;have hb2:=hid (hb1.out.trans (hb.mono (HB.out _ hb1.out).2.2.2.2.2))))
      |(go_at_call 110;go_loud ((refine (YC c [⟨x.dc,x.n,x.n⟩] _ _ w2 (HB.out _ hb2.out).2.2.2.2.1 hsl hN (by simp) hR hR').mono ?_);rintro e w3 ⟨v3,rfl,ho3,hb⟩;obtain⟨A3,c3,hv3⟩:=ho3.shape;subst hv3;have hbu:=hid hb;have hb3:=hid (hb2.out.trans (hb.mono (HB.out _ hb2.out).2.2.2.2.2));have hg3:=hid (HB.out _ hb3.out).2.2.1;have k0:w3.cell? ⟨w.heap.size+1,0,none⟩=some (.slice none 0 0):=Qa (i:=0) hg3.out;have k1:w3.cell? ⟨w.heap.size+1,1,none⟩=some (.slice none 0 0):=Qa (i:=1) hg3.out;have k2:w3.cell? ⟨w.heap.size+1,2,none⟩=some (.slice none 0 0):=Qa (i:=2) hg3.out;have z0:=Qb (i:=0) hg3.out;have z1:=Qb (i:=1) hg3.out;have z2:=Qb (i:=2) hg3.out)))
 go_wp2_with fail
 obtain⟨r0,r1,r2,hK,hS⟩:=box3 hg3.out (.slice Av (QC [(p,x)]).es.length nv) (.slice Aw (QC [(p,x)]).ks.length nw) (.slice A3 (ctxBy c [⟨x.dc,x.n,x.n⟩] 0).length c3)
 have hs1:=(HB.out _ hb1.out).2.2.2.2.2
 have hs2:=hbt.out.size
 have hs3:=hbu.out.size
 have hBW:=((((HB.out _ hb3.out).1.setCell (p:=⟨w.heap.size+1,0,none⟩) (by simp) (.slice Av (QC [(p,x)]).es.length nv)).setCell (p:=⟨w.heap.size+1,1,none⟩) (by simp) (.slice Aw (QC [(p,x)]).ks.length nw)).setCell (p:=⟨w.heap.size+1,2,none⟩) (by simp) (.slice A3 (ctxBy c [⟨x.dc,x.n,x.n⟩] 0).length c3))
 refine bodyPost_ret (v:=.agg #[.slice Av (QC [(p,x)]).es.length nv,.slice Aw (QC [(p,x)]).ks.length nw,.slice A3 (ctxBy c [⟨x.dc,x.n,x.n⟩] 0).length c3]) (by simp[results,Tryz.results107,go_sem,r0,r1,r2]) rfl ⟨_,_,_,rfl,?_,?_,hBW⟩
 ·refine Qs (fun b hb=>?_) (fun b hb=>⟨by have:=hb.1;simp only[World.size_alloc,World.size_drew]at this;omega,by rw[hS];have:=hb.2;omega⟩) _ _ _ hrd
  have h1:=hb.1
  simp only[World.size_alloc,World.size_drew]at h1
  have h2:=hb.2
  exact (hK b (by omega)).trans ((hbu.out.block b (by omega)).trans (hbt.out.block b h2))
 ·exact (ho3.sla HLC.out).up (fun b hb=>hK b (by have:=hb.1;omega)) (fun b hb=>⟨by have:=hb.1;omega,by rw[hS];exact hb.2.1⟩) (fun _ _ _ h=>h)
def UFb (w:World)(b:Nat):Prop:=∀ o,w.frozen? ⟨b,o,none⟩=false
theorem UFb.up {w w':World}{b:Nat}(h:UFb w b)(hk:w'.heap[b]?=w.heap[b]?):UFb w' b:=fun o=>by
 have h1:=h o
 unfold World.frozen? at h1 ⊢
 simp only at h1 ⊢
 rw[hk];exact h1
theorem JV (w:World)(a:Addr)(v:Value)(p:Addr):(w.setCell a v).frozen? p=w.frozen? p:=World.frozen?_setCell _ _ _ _
def Zw:Value->Bool
 |.slice _ _ _=>true
 |_=>false
structure Scr (base:Nat)(w w':World):Prop where
 below:Below base w w'
 cell:∀ (b o:Nat) v,b<w.heap.size->w.cell? ⟨b,o,none⟩=some v->∃ v',w'.cell? ⟨b,o,none⟩=some v'/\Zw v'=Zw v/\(Zw v=true->v'=v)
 uf:∀ b,b<w.heap.size->UFb w b->UFb w' b
theorem Scr.refl (base:Nat)(w:World):Scr base w w:=⟨Below.refl _ _,fun _ _ v _ h=>⟨v,h,rfl,fun _=>rfl⟩,fun _ _ h=>h⟩
theorem Scr.trans {base:Nat}{a b c:World}(h:Scr base a b)(k:Scr base b c):Scr base a c:=by
 refine⟨h.below.trans k.below,fun q o v hq hv=>?_,fun q hq hu=>k.uf q (Nat.lt_of_lt_of_le hq h.below.size) (h.uf q hq hu)⟩
 obtain⟨v1,e1,e2,e3⟩:=h.cell q o v hq hv
 obtain⟨v2,f1,f2,f3⟩:=k.cell q o v1 (Nat.lt_of_lt_of_le hq h.below.size) e1
 exact⟨v2,f1,f2.trans e2,fun hh=>by rw[f3 (e2.trans hh),e3 hh]⟩
theorem Scr.of {base:Nat}{w w':World}(h:Below w.heap.size w w')(hb:base<=w.heap.size):Scr base w w':=
 ⟨h.mono hb,fun b o v hv h1=>⟨v,(h.cell (p:=⟨b,o,none⟩) hv).trans h1,rfl,fun _=>rfl⟩,fun b hb' hu=>hu.up (h.block b hb')⟩
theorem Scr.mono {base base':Nat}{w w':World}(h:Scr base w w')(hb:base'<=base):Scr base' w w':=⟨h.below.mono hb,h.cell,h.uf⟩
theorem Scr.set {base:Nat}{w w':World}(h:Scr base w w'){b o:Nat}{u:Value}(hb:base<=b)(hc:∀ v,w'.cell? ⟨b,o,none⟩=some v->Zw v=false)(hu:Zw u=false):Scr base w (w'.setCell ⟨b,o,none⟩ u):=by
 refine h.trans ⟨(Below.refl base w').setCell hb u,fun q p v hq hv=>?_,fun q hq hu=>fun o'=>(JV _ _ _ _).trans (hu o')⟩
 by_cases he:(⟨b,o,none⟩:Addr)=⟨q,p,none⟩
 ·rw[←he]at hv ⊢
  refine⟨u,World.cell?_setCell_same _ _ _ hv,by rw[hu,hc v hv],fun hh=>by rw[hc v hv]at hh;cases hh⟩
 ·exact⟨v,by rw[World.cell?_setCell_other _ _ _ _ he];exact hv,rfl,fun _=>rfl⟩
def Plain (w:World)(b o n:Nat):Prop:=∀ i,i<n->∃ u,w.cell? ⟨b,o+i,none⟩=some u/\Zw u=false
mutual
def Tr.shp (w:World)(ok:Nat->Prop):Tr->Value->Value->Prop
 |.mk es ks,ve,vk=>(∃ A c,ve=.slice A es.length c/\es.length<=c/\es.length<=Big/\(es≠[]->∃ b off,A=some ⟨b,off,none⟩/\ok b/\UFb w b/\Plain w b off (es.length*4))) /\
   ∃ A c,vk=.slice A ks.length c/\ks.length<=c/\ks.length<=Big/\(ks≠[]->∃ b off,A=some ⟨b,off,none⟩/\ok b/\UFb w b/\Tr.shpL w ok b off ks)
def Tr.shpL (w:World)(ok:Nat->Prop)(b:Nat):Nat->List (ByteArray×Tr)->Prop
 |_,[]=>True
 |off,(_,t) :: ks=>(∃ u ve vk,w.cell? ⟨b,off,none⟩=some u/\Zw u=false/\w.cell? ⟨b,off+1,none⟩=some ve/\w.cell? ⟨b,off+2,none⟩=some vk/\t.shp w ok ve vk)/\Tr.shpL w ok b (off+3) ks
end
def KidS (w:World)(ok:Nat->Prop)(b o:Nat)(t:Tr):Prop:=∃ u ve vk,w.cell? ⟨b,o,none⟩=some u/\Zw u=false/\w.cell? ⟨b,o+1,none⟩=some ve/\w.cell? ⟨b,o+2,none⟩=some vk/\t.shp w ok ve vk
theorem qX1 {w:World}{ok:Nat->Prop}{b:Nat}:∀ (ks:List Kd) (off:Nat),Tr.shpL w ok b off ks↔∀ (j:Nat) (x:Kd),ks[j]?=some x->KidS w ok b (off+j*3) x.2
 |[],off=>by simp[Tr.shpL]
 |(k,t) :: ks,off=>by
  rw[Tr.shpL,qX1 ks (off+3)]
  constructor
  ·rintro⟨h,h5⟩ j x hx
   match j,hx with
   |0,hx=>simp at hx;subst hx;simpa[KidS] using h
   |j+1,hx=>have:=h5 j x (by simpa using hx);rwa [show off+(j+1)*3=off+3+j*3 by omega]
  ·intro h
   refine⟨by simpa[KidS] using h 0 (k,t) rfl,fun j x hx=>?_⟩
   have:=h (j+1) x (by simpa using hx)
   rwa [show off+(j+1)*3=off+3+j*3 by omega]at this
theorem Ya {w:World}{ok:Nat->Prop}{es:List En}{ks:List Kd}{ve vk:Value}:(Tr.mk es ks).shp w ok ve vk ↔
  (∃ A c,ve=.slice A es.length c/\es.length<=c/\es.length<=Big/\(es≠[]->∃ b off,A=some ⟨b,off,none⟩/\ok b/\UFb w b/\Plain w b off (es.length*4))) /\
   ∃ A c,vk=.slice A ks.length c/\ks.length<=c/\ks.length<=Big/\(ks≠[]->∃ b off,A=some ⟨b,off,none⟩/\ok b/\UFb w b/\∀ (j:Nat) (x:Kd),ks[j]?=some x->KidS w ok b (off+j*3) x.2):=by
 rw[Tr.shp]
 simp only[qX1]
theorem JW {w:World}{ok:Nat->Prop}{t:Tr}{ve vk:Value}(h:t.shp w ok ve vk):∃ A n A' m,ve=.slice A t.es.length n/\vk=.slice A' t.ks.length m:=by
 obtain⟨es,ks⟩:=t
 rw[Ya]at h
 obtain⟨⟨A,n,h1,_⟩,⟨A',m,h2,_⟩⟩:=h
 exact⟨A,n,A',m,h1,h2⟩
theorem zZ7 {w:World}{ok:Nat->Prop}(t:Tr):∀ ve vk,t.rda w (fun b=>ok b/\UFb w b) ve vk->t.shp w ok ve vk:=by
 induction t using Tr.ind with
 |h es ks ih=>
 intro ve vk h
 rw[Zh]at h
 rw[Ya]
 obtain⟨⟨A,c,rfl,a1,a2,a3⟩,⟨A',c',rfl,b1,b2,b3⟩⟩:=h
 refine⟨⟨A,c,rfl,a1,a2,fun hn=>?_⟩,⟨A',c',rfl,b1,b2,fun hn=>?_⟩⟩
 ·obtain⟨b,off,rfl,hb,hc⟩:=a3 hn
  refine⟨b,off,rfl,hb.1,hb.2,fun i hi=>?_⟩
  have hj:i / 4<es.length:=by omega
  obtain⟨cs,he,hl,hu⟩:=hc (i / 4) _ (List.getElem?_eq_getElem hj)
  have hm:i % 4<cs.length:=by rw[hl];omega
  have:=hu (i % 4) _ (List.getElem?_eq_getElem hm)
  refine⟨_,by rw[show off+i=off+i / 4*4+i % 4 by omega];exact this,?_⟩
  obtain⟨rfl,_⟩:=he
  have h4:i % 4=0∨i % 4=1∨i % 4=2∨i % 4=3:=by omega
  rcases h4 with h4|h4|h4|h4<;>simp[h4,Zw]
 ·obtain⟨b,off,rfl,hb,hc⟩:=b3 hn
  refine⟨b,off,rfl,hb.1,hb.2,fun j x hx=>?_⟩
  obtain⟨cs,⟨ve,vk,rfl,h0,h1⟩,_,hu⟩:=hc j x hx
  exact⟨.string x.1,ve,vk,by simpa using hu 0 _ rfl,rfl,hu 1 _ rfl,hu 2 _ rfl,ih x.1 x.2 (List.mem_of_getElem? hx) _ _ h1⟩
theorem Plain.scr {base:Nat}{w w':World}(h:Scr base w w'){b o n:Nat}(hb:b<w.heap.size)(hp:Plain w b o n):Plain w' b o n:=fun i hi=>by
 obtain⟨u,h1,h2⟩:=hp i hi
 obtain⟨v,e1,e2,_⟩:=h.cell b (o+i) u hb h1
 exact⟨v,e1,e2.trans h2⟩
theorem JX {base:Nat}{w w':World}(h:Scr base w w'){ok:Nat->Prop}(hk:∀ b,ok b->b<w.heap.size)(t:Tr):∀ ve vk,t.shp w ok ve vk->t.shp w' ok ve vk:=by
 induction t using Tr.ind with
 |h es ks ih=>
 intro ve vk
 rw[Ya,Ya]
 rintro⟨⟨A,c,rfl,a1,a2,a3⟩,⟨A',c',rfl,b1,b2,b3⟩⟩
 refine⟨⟨A,c,rfl,a1,a2,fun hn=>?_⟩,⟨A',c',rfl,b1,b2,fun hn=>?_⟩⟩
 ·obtain⟨b,off,rfl,ho,hu,hp⟩:=a3 hn
  exact⟨b,off,rfl,ho,h.uf b (hk b ho) hu,hp.scr h (hk b ho)⟩
 ·obtain⟨b,off,rfl,ho,hu,hp⟩:=b3 hn
  refine⟨b,off,rfl,ho,h.uf b (hk b ho) hu,fun j x hx=>?_⟩
  obtain⟨u,ve,vk,e1,e2,e3,e4,e5⟩:=hp j x hx
  obtain⟨A1,n1,A2,n2,rfl,rfl⟩:=JW e5
  obtain⟨u',f1,f2,_⟩:=h.cell b _ u (hk b ho) e1
  obtain⟨v1,g1,_,g3⟩:=h.cell b _ _ (hk b ho) e3
  obtain⟨v2,k1,_,k3⟩:=h.cell b _ _ (hk b ho) e4
  rw[g3 rfl]at g1
  rw[k3 rfl]at k1
  exact⟨u',_,_,f1,f2.trans e2,g1,k1,ih x.1 x.2 (List.mem_of_getElem? hx) _ _ e5⟩
end Go.Proofs.YtbcoelggdikipaaGreat
