/- What the laws need. No condition but those that each lemma states. -/
import Derived.Lib.AppendZerosOnto
import Derived.Lib.SliceRun
import Derived.Test.YtbcoelggdikipaaGreatUy3
import Derived.Test.YtbcoelggdikipaaGreatUy2
import Derived.Test.YtbcoelggdikipaaGreatUy1
set_option maxRecDepth 100000
set_option maxHeartbeats 8000000
set_option linter.unusedSimpArgs false
namespace Go.Proofs.YtbcoelggdikipaaGreat
open Go.RowKit
def ofOut (out:List (Int×Int))(x:Int):List (Int×Int):=
 match out.getLast? with
 |some r=>if r.2=x-1 then out.set (out.length-1) (r.1,x) else out++[(x,x)]
 |none=>[(x,x)]
def ofGo (ps:List Int):Nat->Int×Bool->List (Int×Int)->List (Int×Int)
 |0,_,out=>out
 |n+1,s,out=>if s.2 then ofGo ps n (nextL ps s.1) (ofOut out s.1) else out
def ofL (ps:List Int):List (Int×Int):=ofGo ps (ps.length+1) (nextL ps 0) []
theorem Ku (ps:List Int)(n:Nat)(x:Int)(out:List (Int×Int)):ofGo ps n (x,false) out=out:=by
 cases n<;>simp[ofGo]
theorem Vf (out:List (Int×Int))(x:Int):(ofOut out x).length<=out.length+1:=by
 unfold ofOut
 cases h:out.getLast? with
 |none=>simp
 |some r=>dsimp only;split<;>simp
theorem JT (ps:List Int):∀ (n:Nat) (s:Int×Bool) (out:List (Int×Int)),(ofGo ps n s out).length<=out.length+n
 |0,s,out=>by simp[ofGo]
 |n+1,s,out=>by
  rw[ofGo]
  split
  ·have:=JT ps n (nextL ps s.1) (ofOut out s.1);have:=Vf out s.1;omega
  ·omega
theorem Xk (ps:List Int):(ofL ps).length<=ps.length+1:=by have:=JT ps (ps.length+1) (nextL ps 0) [];simpa[ofL] using this
theorem Vg (ps:List Int)(vp:Value)(w:World)(hsp:SlP w w.heap.size 1 InE vp ps)(hN:ps.length<=400000)(hps:∀ x∈ps,0<=x/\x<=1099511627778) :
  Calls Tryz.prog 164 #[vp] w (RetO w 166 2 (fun _=>RuE) (ofL ps)):=by
 have HY:Hid (ofL ps=ofGo ps (ps.length+1) (nextL ps 0) []):=rfl
 have HBD:Hid (∀ x,0<=(nextL ps x).1/\(nextL ps x).1<=1099511627778):=fun x=>JO hps (by omega) (by omega)
 have HMH:Hid (∀ x,x∈ps->∀ n,(cnt ps x<=n+1)->(nextL ps x).2=true->(nextL ps x).1∈ps/\cnt ps (nextL ps x).1<=n):=fun x hx n hc h=>⟨(QI h).1,by have:=JP hx (QI h).2;omega⟩
 have HM0H:Hid ((nextL ps 0).2=true->(nextL ps 0).1∈ps/\cnt ps (nextL ps 0).1<=ps.length+1):=fun h=>⟨(QI h).1,by have:=JQ ps (nextL ps 0).1;omega⟩
 clear hps
 go_enter Tryz.func164,Tryz.ntmps164
 go_wp2_with (go_at_call 190;with_reducible refine (QL ps 0 vp w _ hsp).mono ?_;rintro e wx ⟨rfl,rfl⟩)
 go_loopg [3,4,5] (ps.length+1) (fun n vo vx vk wr=>∃ (outL:List (Int×Int)) (x:Int) (k:Bool),OwnP wr w.heap.size 166 2 RuE vo outL/\vx=.int .i64 x/\vk=.bool k/\0<=x/\x<=1099511627778/\Below w.heap.size w wr /\
  Hid (ofGo ps n (x,k) outL=ofL ps)/\Hid (k=true->x∈ps/\cnt ps x<=n)/\Hid (outL.length+n<=ps.length+1))
 case atStart=>exact⟨[],_,_,OwnP.nil,rfl,rfl,(HBD.out 0).1,(HBD.out 0).2,Below.refl _ _,HY.out.symm,HM0H.out,by unfold Hid;simp⟩
 case round=>
  obtain⟨outL,x,k,hown,rfl,rfl,hx0,hx1,hbr,hrel,hmem,hlen⟩:=hrel
  have hsz:=hbr.size
  cases k
  ·have hr:=hrel.out
   rw[Ku]at hr
   have HR:=hid hr
   clear hr
   go_wp2_with fail
   go_ret
   exact⟨_,rfl,by rw[←HR.out];exact hown,hbr⟩
  ·obtain⟨n,rfl⟩:∃ n,gk=n+1:=⟨gk-1,by have:=hmem.out rfl;have:=Vd this.1;omega⟩
   have HMM:=hid (hmem.out rfl)
   have HI:Hid (ofGo ps n (nextL ps x) (ofOut outL x)=ofL ps):=hrel.out
   have HPR:Hid (∀ w',Below w.heap.size w w'->SlP w' w.heap.size 1 InE vp ps):=fun w' hb'=>hsp.imp hb' (Nat.le_refl _) fun _ _ _ h=>h
   have JN:Hid (RuE (x,x) [.int .i64 x,.int .i64 x]):=⟨rfl,⟨by omega,by omega⟩,⟨by show _<=x;omega,by show x<=_;omega⟩⟩
   have HNX:Hid ((nextL ps x).2=true->(nextL ps x).1∈ps/\cnt ps (nextL ps x).1<=n):=fun h=>HMH.out x HMM.out.1 n HMM.out.2 h
   have HL:Hid (outL.length + [(x,x)].length<=Few):=by have:=hlen.out;unfold Hid Few;simp;omega
   have hob:outL.length<=400001:=by have:=hlen.out;omega
   rcases Nat.eq_zero_or_pos outL.length with hz|hz
   ·obtain rfl:outL=[]:=List.eq_nil_of_length_eq_zero hz
    have HO:Hid (ofOut [] x=[]++[(x,x)]):=rfl
    obtain⟨A8,c8,rfl⟩:=hown.shape
    clear hz
    simp only[List.length_nil]at hown ⊢
    have HL:Hid (([]:List (Int×Int)).length + [(x,x)].length<=Few):=by unfold Hid Few;simp
    go_wp2_with (first|(at_builtin;with_reducible refine Qi rfl (.tmp 34) (.tmp 38) _ rfl Q7 (by decide) (by decide) (fun _ _ h=>h.one) rfl (hown.alloc _) rfl (SlP.one (x:=(x,x)) JN.out rfl _ rfl) HL.out (by rw[World.size_alloc];omega) ?_;intro v1 w1 hown1 hb1 _)|(go_at_call 190;with_reducible refine (QL ps x vp _ _ (HPR.out _ ((hbr.alloc hsz _).trans hb1))).mono ?_;rintro e wx ⟨rfl,rfl⟩))
    go_roundg n
    case measure=>omega
    case rel=>exact⟨[]++[(x,x)],_,_,hown1,rfl,rfl,HBD.out x |>.1,HBD.out x |>.2,(hbr.alloc hsz _).trans hb1,by have:=HI.out;rw[HO.out]at this;exact this,HNX.out,by have:=hlen.out;unfold Hid;simp at this ⊢;omega⟩
   obtain⟨r,hr⟩:∃ r,outL[outL.length-1]?=some r:=⟨_,List.getElem?_eq_getElem (by omega)⟩
   obtain⟨g,cap,rfl,hg1,hg2,c0,c1,hfz,hset⟩:=hown.setRun hr (z:=x) ⟨by omega,by omega⟩
   have hfz1:=hfz ((outL.length-1)*2+1)
   have HBO:Hid (ofOut outL x=if r.2=x-1 then outL.set (outL.length-1) (r.1,x) else outL++[(x,x)]):=by
    unfold Hid ofOut;rw[List.getLast?_eq_getElem?,hr]
   clear hr hfz
   by_cases hq:r.2=x-1
   ·have HO:Hid (ofOut outL x=outL.set (outL.length-1) (r.1,x)):=by unfold Hid;rw[HBO.out,if_pos hq]
    have hq':(r.2==x-1)=true:=by simpa using hq
    have HQ:=hid hq
    have HS:=hid hset
    clear hq hset
    go_wp2_with (go_at_call 190;with_reducible refine (QL ps x vp _ _ (HPR.out _ (hbr.setCell (by exact hg1) _))).mono ?_;rintro e wx ⟨rfl,rfl⟩)
    go_roundg n
    case measure=>omega
    case rel=>exact⟨outL.set (outL.length-1) (r.1,x),_,_,HS.out,rfl,rfl,HBD.out x |>.1,HBD.out x |>.2,hbr.setCell (by exact hg1) _,by have:=HI.out;rw[HO.out]at this;exact this,HNX.out,by have:=hlen.out;unfold Hid;rw[List.length_set];omega⟩
   ·have HO:Hid (ofOut outL x=outL++[(x,x)]):=by unfold Hid;rw[HBO.out,if_neg hq]
    have hq':(r.2==x-1)=false:=by simpa using hq
    have HQ:=hid hq
    clear hq hset
    go_wp2_with (first|(at_builtin;with_reducible refine Qi rfl (.tmp 34) (.tmp 38) _ rfl Q7 (by decide) (by decide) (fun _ _ h=>h.one) rfl (hown.alloc _) rfl (SlP.one (x:=(x,x)) JN.out rfl _ rfl) HL.out (by rw[World.size_alloc];omega) ?_;intro v1 w1 hown1 hb1 _)|(go_at_call 190;with_reducible refine (QL ps x vp _ _ (HPR.out _ ((hbr.alloc hsz _).trans hb1))).mono ?_;rintro e wx ⟨rfl,rfl⟩))
    go_roundg n
    case measure=>omega
    case rel=>exact⟨outL++[(x,x)],_,_,hown1,rfl,rfl,HBD.out x |>.1,HBD.out x |>.2,(hbr.alloc hsz _).trans hb1,by have:=HI.out;rw[HO.out]at this;exact this,HNX.out,by have:=hlen.out;unfold Hid;simp at this ⊢;omega⟩
theorem Vh (out:List (Int×Int))(x y:Int):(byOut out x y).length<=out.length+1:=by
 unfold byOut
 cases h:out.getLast? with
 |none=>simp
 |some r=>dsimp only;split<;>simp
theorem JU (a b:List (Int×Int))(how:Int)(ps:List Int):∀ (n:Nat) (s:Int×Bool) (out:List (Int×Int)),(byGo a b how ps n s out).length<=out.length+n
 |0,s,out=>by simp[byGo]
 |n+1,s,out=>by
  rw[byGo]
  split
  ·have h1:=JU a b how ps n (nextL ps s.1) (if inn how (hasL a s.1) (hasL b s.1) then byOut out s.1 (nextL ps s.1).1 else out)
   have h2:=Vh out s.1 (nextL ps s.1).1
   split at h1<;>rename_i hc
   ·rw[if_pos hc];omega
   ·rw[if_neg hc];omega
  ·omega
theorem Xl (a b:List (Int×Int))(how:Int):(byL a b how).length<=2*a.length+2*b.length+1:=by
 have:=JU a b how (endsL a++endsL b) ((endsL a++endsL b).length+1) (nextL (endsL a++endsL b) 0) []
 have h1:=ZJ a
 have h2:=ZJ b
 simp at this
 unfold byL
 simp
 omega
def SpsOk (c:List Sp):Prop:=∀ s∈c,0<=s.fr/\s.fr<=1099511627777/\0<=s.hi/\s.hi<=1099511627777
theorem JV {c:List Sp}(h:SpsOk c)(dc:Int):QK (partL c dc):=fun r hr=>by
 unfold partL at hr
 obtain⟨s,hs,rfl⟩:=List.mem_map.1 hr
 exact h s (List.mem_filter.1 hs).1
def ZK (a b:List Sp)(how:Int)(k:Nat):List Sp:=(List.range k).flatMap fun (dc:Nat)=>Qr (dc:Int) (byL (partL a dc) (partL b dc) how)
def ctxBy (a b:List Sp)(how:Int):List Sp:=ZK a b how 4
theorem Zq (a b:List Sp)(how:Int):∀ k,(ZK a b how k).length<=k*(2*a.length+2*b.length+1)
 |0=>by simp[ZK]
 |k+1=>by
  have h:=Zq a b how k
  have h1:=Xl (partL a k) (partL b k) how
  have h2:=Qu a k
  have h3:=Qu b k
  unfold ZK at *
  rw[List.range_succ,List.flatMap_append,List.length_append,Nat.add_mul]
  simp only[List.flatMap_cons,List.flatMap_nil,List.append_nil,Qr,List.length_map]at *
  omega
theorem Vi (a b:List Sp)(how:Int)(va vb:Value)(w:World)(ha:SlP w w.heap.size 3 SpE va a)(hb:SlP w w.heap.size 3 SpE vb b)(hN:a.length<=50000)(hN':b.length<=50000)(hR:SpsOk a)(hR':SpsOk b)(hh:how=0∨how=1∨how=2) :
  Calls Tryz.prog 123 #[va,vb,.int .i64 how] w (RetO w 45 3 (fun _=>SpE) (ctxBy a b how)):=by
 go_enter Tryz.func123,Tryz.ntmps123
 go_wp2_with fail
 go_loopw [7,9] (fun v i wr=>∃ k:Nat,k<=4/\i=.int .i64 k/\OwnP wr w.heap.size 45 3 SpE v (ZK a b how k)/\Below w.heap.size w wr) (fun _ i _=>4-(intOf i).toNat)
 case atStart=>exact⟨0,Nat.zero_le _,rfl,OwnP.nil,Below.refl _ _⟩
 case round=>
  obtain⟨k,hk,rfl,hown,hbr⟩:=hrel
  have hsz:=hbr.size
  by_cases hlt:k<4
  ·have hpa:=Qu a k
   have hpb:=Qu b k
   have hl:=Xl (partL a k) (partL b k) how
   have hcl:=Zq a b how k
   have HL:Hid ((ZK a b how k).length+(Qr (k:Int) (byL (partL a k) (partL b k) how)).length<=Few):=by
    have:k*(2*a.length+2*b.length+1)<=3*(2*a.length+2*b.length+1):=Nat.mul_le_mul_right _ (by omega)
    unfold Hid Few Qr;rw[List.length_map];omega
   have HX:Hid (ZK a b how (k+1)=ZK a b how k++Qr (k:Int) (byL (partL a k) (partL b k) how)):=by
    unfold Hid ZK;rw[List.range_succ,List.flatMap_append];simp
   have HLL:=hid hl
   clear hcl hl
   go_wp2_with fail
   refine (Zz a k va wr (ha.imp hbr hsz fun _ _ _ h=>h) (by omega)).mono ?_
   rintro e w1 ⟨v1,rfl,ho1,hb1⟩
   have hs1:=hb1.size
   go_wp2_with fail
   refine (Zz b k vb w1 (hb.imp (hbr.trans (hb1.mono hsz)) (by omega) fun _ _ _ h=>h) (by omega)).mono ?_
   rintro e w2 ⟨v2,rfl,ho2,hb2⟩
   have hs2:=hb2.size
   have s1:=(ho1.grow hb2).sl (by unfold Big;omega)
   have s2:=ho2.sl (by unfold Big;omega)
   clear ho1 ho2
   go_wp2_with fail
   refine (Ve (partL a k) (partL b k) how v1 v2 w2 s1 s2 (by omega) (by omega) (JV hR k) (JV hR' k) hh).mono ?_
   rintro e w3 ⟨v3,rfl,ho3,hb3⟩
   have hs3:=hb3.size
   have s3:=ho3.sl (by have:=HLL.out;unfold Big;omega)
   clear ho3
   go_wp2_with fail
   refine (Yg _ k v3 w3 s3 (by have:=HLL.out;omega) ⟨by omega,by omega⟩).mono ?_
   rintro e w4 ⟨v4,rfl,ho4,hb4⟩
   have hs4:=hb4.size
   have s4:=ho4.sl (by have:=HL.out;unfold Few at this;unfold Big;omega)
   have hB4:Below wr.heap.size wr w4:=((hb1.trans (hb2.mono hs1)).trans (hb3.mono (by omega))).trans (hb4.mono (by omega))
   clear ho4
   go_wp2_with (at_builtin;with_reducible refine Qi rfl (.tmp 12) (.tmp 22) _ rfl Xw (by decide) (by decide) (fun _ _ h=>h.one) rfl (hown.grow hB4) rfl s4 HL.out (by omega) ?_;intro v5 w5 hown5 hb5 _)
   go_roundw
   case rel=>exact⟨k+1,by omega,by go_num,by rw[HX.out];exact hown5,(hbr.trans (hB4.mono hsz)).trans hb5⟩
   case measure=>simp[intOf];omega
  ·obtain rfl:k=4:=by omega
   go_wp2_with fail
   go_ret
   exact⟨_,rfl,hown,hbr⟩
def numsL (l:List Dt)(dc:Int):List Int:=(l.filter fun d=>d.dc==dc).map fun d=>d.n
def Zv (l:List Dt)(k:Nat):List Sp:=(List.range k).flatMap fun (dc:Nat)=>Qr (dc:Int) (ofL (numsL l dc))
def ctxOf (l:List Dt):List Sp:=Zv l 4
theorem YT {c:List Dt}{k:Nat}{x:Dt}(h:c[k]?=some x)(dc:Int):numsL (c.take (k+1)) dc=numsL (c.take k) dc++(if x.dc=dc then [x.n] else []):=by
 unfold numsL
 rw[List.take_add_one,h]
 by_cases hd:x.dc=dc<;>simp[hd]
theorem QW (c:List Dt)(dc:Int):(numsL c dc).length<=c.length:=by
 unfold numsL;rw[List.length_map];exact List.length_filter_le _ _
theorem Z6 (l:List Dt):∀ k,(Zv l k).length<=k*(l.length+1)
 |0=>by simp[Zv]
 |k+1=>by
  have h:=Z6 l k
  have h1:=Xk (numsL l k)
  have h2:=QW l k
  unfold Zv at *
  rw[List.range_succ,List.flatMap_append,List.length_append,Nat.add_mul]
  simp only[List.flatMap_cons,List.flatMap_nil,List.append_nil,Qr,List.length_map]at *
  omega
theorem Vj (l:List Dt)(vl:Value)(w:World)(hl:SlP w w.heap.size 2 DtE vl l)(hN:l.length<=100000)(hR:∀ d∈l,0<=d.n/\d.n<=1099511627778) :
  Calls Tryz.prog 124 #[vl] w (RetO w 45 3 (fun _=>SpE) (ctxOf l)):=by
 obtain⟨A,n,rfl,b1,b2,b3⟩:=hl
 unfold Big at b2
 go_enter Tryz.func124,Tryz.ntmps124
 go_wp2_with fail
 go_loopw [3,7] (fun v i wr=>∃ k:Nat,k<=4/\i=.int .i64 k/\OwnP wr w.heap.size 45 3 SpE v (Zv l k)/\Below w.heap.size w wr) (fun _ i _=>4-(intOf i).toNat)
 case atStart=>exact⟨0,Nat.zero_le _,rfl,OwnP.nil,Below.refl _ _⟩
 case round=>
  obtain⟨k,hk,rfl,hown,hbr⟩:=hrel
  have hsz:=hbr.size
  by_cases hlt:k<4
  ·have HL:Hid ((Zv l k).length+(Qr (k:Int) (ofL (numsL l k))).length<=Few):=by
    have h1:=Xk (numsL l k)
    have h2:=QW l k
    have hcl:=Z6 l k
    have:k*(l.length+1)<=3*(l.length+1):=Nat.mul_le_mul_right _ (by omega)
    unfold Hid Few Qr;rw[List.length_map];omega
   have HX:Hid (Zv l (k+1)=Zv l k++Qr (k:Int) (ofL (numsL l k))):=by
    unfold Hid Zv;rw[List.range_succ,List.flatMap_append];simp
   have hlen:=QW l k
   have hlt':decide ((k:Int)<4)=true:=by simp;omega
   go_wp2_with fail
   obtain⟨wo,rfl⟩:∃ wo:World,wo=wr:=⟨_,rfl⟩
   go_loopw [5,12] (fun v i wr=>∃ j:Nat,j<=l.length/\i=.int .i64 j/\OwnP wr wo.heap.size 2 1 InE v (numsL (l.take j) k)/\Below wo.heap.size wo wr) (fun _ i _=>l.length-(intOf i).toNat)
   case atStart=>exact⟨0,Nat.zero_le _,rfl,OwnP.nil,Below.refl _ _⟩
   case round=>
    obtain⟨j,hj,rfl,hin,hbi⟩:=hrel
    have hsi:=hbi.size
    by_cases hjl:j<l.length
    ·obtain⟨x,hx⟩:∃ x,l[j]?=some x:=⟨_,List.getElem?_eq_getElem hjl⟩
     obtain⟨b,off,rfl,hbB,hc⟩:=b3 (by rintro rfl;simp at hjl)
     obtain⟨cs,⟨rfl,hok⟩,_,hu⟩:=hc j _ hx
     have e0:wr.cell? ⟨b,off+j*2,none⟩=some (.int .i64 x.dc):=((hbi.cell (by show b<_;omega)).trans (hbr.cell hbB)).trans (hu 0 _ rfl)
     have e1:wr.cell? ⟨b,off+j*2+1,none⟩=some (.int .i64 x.n):=((hbi.cell (by show b<_;omega)).trans (hbr.cell hbB)).trans (hu 1 _ rfl)
     have HT:=hid (YT hx k)
     have HLI:Hid ((numsL (l.take j) k).length + [x.n].length<=Few):=by
      have:=QW (l.take j) k
      unfold Hid Few;simp at this ⊢;omega
     have JN:Hid (InE x.n [.int .i64 x.n]):=⟨rfl,hok.n⟩
     clear hu hx hc b3 hok
     by_cases hd:x.dc=k
     ·have hd':(x.dc==(k:Int))=true:=by simpa using hd
      have HD:=hid hd
      clear hd
      go_wp2_with (at_builtin;with_reducible refine Qi rfl (.tmp 22) (.tmp 28) _ rfl Xd (by decide) (by decide) (fun _ _ h=>h.one) rfl (hin.alloc _) rfl (SlP.one JN.out rfl _ rfl) HLI.out (by rw[World.size_alloc];omega) ?_;intro v1 w1 hown1 hb1 _)
      go_roundw
      case rel=>exact⟨j+1,by omega,by go_num,by rw[HT.out,if_pos HD.out];exact hown1,(hbi.alloc hsi _).trans hb1⟩
      case measure=>simp[intOf];omega
     ·have hd':(x.dc==(k:Int))=false:=by simpa using hd
      have HD:=hid hd
      clear hd
      go_wp2_with fail
      go_roundw
      case rel=>exact⟨j+1,by omega,by go_num,by rw[HT.out,if_neg HD.out,List.append_nil];exact hin,hbi⟩
      case measure=>simp[intOf];omega
    ·obtain rfl:j=l.length:=by omega
     rw[List.take_of_length_le (Nat.le_refl _)]at hin
     have sin:=hin.sl (by unfold Big;omega)
     have hnr:Hid (∀ x∈numsL l k,0<=x/\x<=1099511627778):=fun x hx=>by
      unfold numsL at hx
      obtain⟨d,hd,rfl⟩:=List.mem_map.1 hx
      exact hR d (List.mem_filter.1 hd).1
     clear hin
     go_wp2_with fail
     refine (Vg (numsL l k) _ wr sin (by omega) hnr.out).mono ?_
     rintro e w1 ⟨v1,rfl,ho1,hb1⟩
     have hs1:=hb1.size
     have hol:=Xk (numsL l k)
     have s1:=ho1.sl (by unfold Big;omega)
     clear ho1
     go_wp2_with fail
     refine (Yg _ k v1 w1 s1 (by omega) ⟨by omega,by omega⟩).mono ?_
     rintro e w4 ⟨v4,rfl,ho4,hb4⟩
     have hs4:=hb4.size
     have s4:=ho4.sl (by have:=HL.out;unfold Few at this;unfold Big;omega)
     have hB4:Below wo.heap.size wo w4:=(hbi.trans (hb1.mono hsi)).trans (hb4.mono (by omega))
     clear ho4
     go_wp2_with (at_builtin;with_reducible refine Qi rfl (.tmp 31) (.tmp 35) _ rfl Xw (by decide) (by decide) (fun _ _ h=>h.one) rfl (hown.grow hB4) rfl s4 HL.out (by omega) ?_;intro v5 w5 hown5 hb5 _)
     go_roundw
     case rel=>exact⟨k+1,by omega,by go_num,by rw[HX.out];exact hown5,(hbr.trans (hB4.mono hsz)).trans hb5⟩
     case measure=>simp[intOf];omega
  ·obtain rfl:k=4:=by omega
   go_wp2_with fail
   go_ret
   exact⟨_,rfl,hown,hbr⟩
theorem SlA.nil {α:Type}{w:World}{ok:Nat->Prop}{sz:Nat}{E:α->List Value->Prop}:SlA w ok sz E (.slice none 0 0) ([]:List α):=⟨none,0,rfl,Nat.le_refl _,by simp,fun h=>absurd rfl h⟩
theorem ZL (t:Tr)(w:World)(ve vk:Value)(h:t.rd w w.heap.size ve vk)(hN:t.sz<=100000) :
  Calls Tryz.prog 41 #[.agg #[ve,vk]] w (RetD w 91 5 LfA (fun _=>False) (t.lvs [])):=by
 obtain⟨A3,n3,A4,n4,rfl,rfl⟩:=Ql h
 have hr:=Qj ((Below.refl _ w).alloc (Nat.le_refl _) (.cells #[.slice A3 t.es.length n3,.slice A4 t.ks.length n4] 25)) (by simp:w.heap.size<=(w.alloc (.cells #[.slice A3 t.es.length n3,.slice A4 t.ks.length n4] 25)).heap.size) _ _ _ h
 have HR:=hid hr
 clear hr h
 go_enter Tryz.func41,Tryz.ntmps41
 go_wp2_with fail
 refine (XF t [] (fun _=>False) _ _ _ _ HR.out SlA.nil (fun _ h=>h.elim) (by simpa using hN)).mono ?_
 rintro e w1 ⟨v,rfl,hv,hb⟩
 have hs:=hb.size
 simp only[World.size_alloc]at hs hb
 go_wp2_with fail
 go_ret
 refine⟨v,rfl,(hv.mono (by simp)).weak LfA.mon fun b hb=>?_,((Below.refl _ w).alloc (Nat.le_refl _) _).trans (hb.mono (by omega))⟩
 rcases hb with h|h
 ·exact h.elim
 ·refine .inr ?_;rw[World.size_alloc]at h;omega
mutual
theorem lvs_dots:∀ (t:Tr) (p:List ByteArray),(t.lvs p).map (fun x=>x.2.dot)=t.dots
 |.mk es ks,p=>by rw[Tr.lvs,Tr.dots,List.map_append,lvsL_dots ks p,List.map_map];rfl
theorem lvsL_dots:∀ (ks:List (ByteArray×Tr)) (p:List ByteArray),(Tr.lvsL ks p).map (fun x=>x.2.dot)=Tr.dotsL ks
 |[],p=>by rw[Tr.lvsL,Tr.dotsL];rfl
 |(k,t) :: ks,p=>by rw[Tr.lvsL,Tr.dotsL,List.map_append,lvs_dots t,lvsL_dots ks]
end
theorem Yi (t:Tr):t.dots.length<=t.sz:=by rw[←lvs_dots t [],List.length_map];exact lvs_len t []
theorem Yr (t:Tr)(w:World)(ve vk:Value)(h:t.rd w w.heap.size ve vk)(hN:t.sz<=90000)(hR:∀ d∈t.dots,0<=d.n/\d.n<=1099511627778) :
  Calls Tryz.prog 78 #[.agg #[ve,vk]] w (RetO w 45 3 (fun _=>SpE) (ctxOf t.dots)):=by
 obtain⟨A3,n3,A4,n4,rfl,rfl⟩:=Ql h
 have hr:=Qj ((Below.refl _ w).alloc (Nat.le_refl _) (.cells #[.slice A3 t.es.length n3,.slice A4 t.ks.length n4] 25)) (by simp:w.heap.size<=(w.alloc (.cells #[.slice A3 t.es.length n3,.slice A4 t.ks.length n4] 25)).heap.size) _ _ _ h
 have HR:=hid hr
 have hll:=lvs_len t []
 have hdl:=Yi t
 have hld:=hid (lvs_dots t [])
 clear hr h
 go_enter Tryz.func78,Tryz.ntmps78
 go_wp2_with fail
 refine (ZL t _ _ _ HR.out (by omega)).mono ?_
 rintro e w1 ⟨v,rfl,hv,hb1⟩
 have hs1:=hb1.size
 simp only[World.size_alloc]at hs1 hb1
 have hB1:Below w.heap.size w w1:=((Below.refl _ w).alloc (Nat.le_refl _) _).trans (hb1.mono (by omega))
 obtain⟨A,c,rfl,l1,l2,l3⟩:=hv.sl LfA.mon (by unfold Big;omega)
 unfold Big at l2
 clear hv
 go_wp2_with fail
 go_loopw [3,10] (fun v i wr=>∃ k:Nat,k<=(t.lvs []).length/\i=.int .i64 k/\OwnP wr w1.heap.size 78 2 DtE v (((t.lvs []).take k).map (fun x=>x.2.dot))/\Below w1.heap.size w1 wr) (fun _ i _=>(t.lvs []).length-(intOf i).toNat)
 case atStart=>exact⟨0,Nat.zero_le _,rfl,OwnP.nil,Below.refl _ _⟩
 case round=>
  obtain⟨k,hk,rfl,hown,hb⟩:=hrel
  have hsz:=hb.size
  by_cases hlt:k<(t.lvs []).length
  ·obtain⟨x,hx⟩:∃ x,(t.lvs [])[k]?=some x:=⟨_,List.getElem?_eq_getElem hlt⟩
   obtain⟨b,off,rfl,hbB,hc⟩:=l3 (by intro e;rw[e]at hlt;simp at hlt)
   obtain⟨cs,⟨A7,c7,rfl,_,hok⟩,_,hu⟩:=hc k _ hx
   have e0:wr.cell? ⟨b,off+k*5+1,none⟩=some (.int .i64 x.2.dc):=(hb.cell hbB).trans (hu 1 _ rfl)
   have e1:wr.cell? ⟨b,off+k*5+2,none⟩=some (.int .i64 x.2.n):=(hb.cell hbB).trans (hu 2 _ rfl)
   have HX:Hid (((t.lvs []).take (k+1)).map (fun x=>x.2.dot)=((t.lvs []).take k).map (fun x=>x.2.dot)++[x.2.dot]):=by
    unfold Hid;rw[List.take_add_one,hx];simp
   have HL:Hid ((((t.lvs []).take k).map (fun x=>x.2.dot)).length + [x.2.dot].length<=Few):=by unfold Hid Few;simp;omega
   have JN:Hid (DtE x.2.dot [.int .i64 x.2.dc,.int .i64 x.2.n]):=⟨rfl,hok.dc,hok.n⟩
   clear hu hx hc l3 hok
   go_wp2_with (at_builtin;with_reducible refine Qi rfl (.tmp 13) (.tmp 20) _ rfl eiDot (by decide) (by decide) (fun _ _ h=>h.one) rfl (hown.alloc _) rfl (SlP.one JN.out rfl _ rfl) HL.out (by rw[World.size_alloc];omega) ?_;intro v1 w2 hown1 hb2 _)
   go_roundw
   case rel=>exact⟨k+1,by omega,by go_num,by rw[HX.out];exact hown1,(hb.alloc (by omega) _).trans hb2⟩
   case measure=>simp[intOf];omega
  ·obtain rfl:k=(t.lvs []).length:=by omega
   rw[List.take_of_length_le (Nat.le_refl _),hld.out]at hown
   have sown:=hown.sl (by unfold Big;omega)
   clear hown
   go_wp2_with fail
   refine (Vj t.dots _ wr sown (by omega) hR).mono ?_
   rintro e w3 ⟨v3,rfl,hv3,hb3⟩
   go_wp2_with fail
   go_ret
   exact⟨v3,rfl,hv3.mono (by omega),(hB1.trans (hb.mono (by omega))).trans (hb3.mono (by omega))⟩
def deepL (l:List Lf):Nat:=(l.map fun x=>x.1.length).sum
theorem JW {l:List Lf}{x:Lf}(h:x∈l):x.1.length<=deepL l:=by
 unfold deepL
 induction l with
 |nil=>cases h
 |cons y l ih=>
  rw[List.map_cons,List.sum_cons]
  rcases List.mem_cons.1 h with rfl|h
  ·omega
  ·have:=ih h;omega
def Qp (l:List Lf):Tr:=Yn (deepL l) l
def RetT (w:World)(t:Tr)(e:Ending)(w':World):Prop:=
 ∃ ve vk,e=.returned (.agg #[ve,vk])/\t.rda w' (fun b=>w.heap.size<=b/\b<w'.heap.size) ve vk/\Below w.heap.size w w'
theorem ZM (l:List Lf)(vl:Value)(w:World)(h:SlP w w.heap.size 5 (LfA w (fun b=>b<w.heap.size)) vl l)(hN:l.length<=900000) :
  Calls Tryz.prog 43 #[vl] w (RetT w (Qp l)):=Yf _ l vl w (fun _ hx=>JW hx) h hN
theorem Ys (a:ByteArray):ltS a ByteArray.empty=false:=by
 unfold ltS;rw[bytesLess_eq];simp
theorem XG {a b:Dt}(h:a.lt b=false)(k:b.lt a=false):a=b:=by
 obtain⟨x,y⟩:=a
 obtain⟨u,v⟩:=b
 unfold Dt.lt at h k
 split at h<;>split at k<;>simp at *<;>omega
inductive Tr.Ord:Tr->Prop
 |mk {es:List En}{ks:List Kd}(h1:es.Pairwise fun a b=>a.dot.lt b.dot=true) (h2:ks.Pairwise fun a b=>ltS a.1 b.1=true) (h3:∀ k t,(k,t)∈ks->k≠ByteArray.empty/\t.empty=false) (h4:∀ k t,(k,t)∈ks->Tr.Ord t):Tr.Ord (.mk es ks)
theorem QX {es:List En}{ks:List Kd}:Tr.Ord (.mk es ks)↔(es.Pairwise fun a b=>a.dot.lt b.dot=true)/\(ks.Pairwise fun a b=>ltS a.1 b.1=true)/\∀ k t,(k,t)∈ks->k≠ByteArray.empty/\t.empty=false/\t.Ord:=
 ⟨fun h=>by cases h with|mk h1 h2 h3 h4=>exact⟨h1,h2,fun k t hm=>⟨(h3 k t hm).1,(h3 k t hm).2,h4 k t hm⟩⟩,fun h=>.mk h.1 h.2.1 (fun k t hm=>⟨(h.2.2 k t hm).1,(h.2.2 k t hm).2.1⟩) fun k t hm=>(h.2.2 k t hm).2.2⟩
theorem Ord.mk' {es:List En}{ks:List Kd}(h1:es.Pairwise fun a b=>a.dot.lt b.dot=true)(h2:ks.Pairwise fun a b=>ltS a.1 b.1=true)(h3:∀ k t,(k,t)∈ks->k≠ByteArray.empty/\t.empty=false/\t.Ord):Tr.Ord (.mk es ks):=QX.2 ⟨h1,h2,h3⟩
theorem XH:∀ (es:List En) (p:Option Dt),entsB p es=true->(es.Pairwise fun a b=>a.dot.lt b.dot=true)/\∀ e∈es,okP p e.dot=true
 |[],_,_=>⟨.nil,fun _ h=>by cases h⟩
 |e :: es,p,h=>by
  rw[QR,Bool.and_eq_true,Bool.and_eq_true]at h
  obtain⟨h1,h2⟩:=XH es _ h.2
  refine⟨.cons (fun a ha=>h2 a ha) h1,fun a ha=>?_⟩
  rcases List.mem_cons.1 ha with rfl|ha
  ·exact h.1.2
  ·exact XA h.1.2 (h2 a ha)
theorem Vl {p:Option ByteArray}{a b:ByteArray}(h:okK p a=true)(k:ltS a b=true):okK p b=true:=by
 cases p with
 |none=>rfl
 |some q=>exact QM h k
theorem qZh {k:ByteArray}(h:keyB k=true):k≠ByteArray.empty:=fun e=>by
 subst e;simp[keyB]at h
theorem XI (d:Int):∀ (ks:List Kd) (p:Option ByteArray),Tr.rightL p ks d=true->(ks.Pairwise fun a b=>ltS a.1 b.1=true)/\(∀ x∈ks,okK p x.1=true)/\∀ k t,(k,t)∈ks->k≠ByteArray.empty/\t.empty=false/\t.right (d-1)=true
 |[],_,_=>⟨.nil,fun _ h=>(by cases h),fun _ _ h=>by cases h⟩
 |(k,t) :: ks,p,h=>by
  rw[QE,Bool.and_eq_true,Bool.and_eq_true,Bool.and_eq_true,Bool.and_eq_true]at h
  obtain⟨⟨⟨⟨a1,a2⟩,a3⟩,a4⟩,a5⟩:=h
  obtain⟨h1,h2,h3⟩:=XI d ks _ a5
  refine⟨.cons (fun a ha=>h2 a ha) h1,fun a ha=>?_,fun k' t' hm=>?_⟩
  ·rcases List.mem_cons.1 ha with rfl|ha
   ·exact a2
   ·exact Vl a2 (h2 a ha)
  ·rcases List.mem_cons.1 hm with e|hm
   ·cases e;exact⟨qZh a1,by simpa using a3,a4⟩
   ·exact h3 k' t' hm
theorem Yt:∀ (t:Tr) (d:Int),t.right d=true->t.Ord:=by
 intro t
 induction t using Tr.ind with
 |h es ks ih=>
 intro d h
 rw[Tr.right,Bool.and_eq_true,Bool.and_eq_true]at h
 obtain⟨h1,h2,h3⟩:=XI d ks none h.2
 exact Ord.mk' (XH es none h.1.2).1 h1 fun k t hm=>⟨(h3 k t hm).1,(h3 k t hm).2.1,ih k t hm _ (h3 k t hm).2.2⟩
/-! the leaves of a tree -/
mutual
theorem lvs_pre:∀ (t:Tr) (p q:List ByteArray),t.lvs (p++q)=(t.lvs q).map fun x=>(p++x.1,x.2)
 |.mk es ks,p,q=>by rw[Tr.lvs,Tr.lvs,List.map_append,List.map_map,lvsL_pre ks p q];rfl
theorem lvsL_pre:∀ (ks:List (ByteArray×Tr)) (p q:List ByteArray),Tr.lvsL ks (p++q)=(Tr.lvsL ks q).map fun x=>(p++x.1,x.2)
 |[],p,q=>rfl
 |(k,t) :: ks,p,q=>by rw[Tr.lvsL,Tr.lvsL,List.map_append,lvsL_pre ks p q,List.append_assoc,lvs_pre t p (q++[k])]
end
theorem qZc (t:Tr)(p:List ByteArray):t.lvs p=(t.lvs []).map fun x=>(p++x.1,x.2):=by
 have:=lvs_pre t p [];simpa using this
theorem qQf {ks:List Kd}{p:List ByteArray}{x:Lf}:x∈Tr.lvsL ks p↔∃ k t,(k,t)∈ks/\x∈t.lvs (p++[k]):=by
 induction ks with
 |nil=>simp[Tr.lvsL]
 |cons y ks ih=>
  obtain⟨k,t⟩:=y
  rw[Tr.lvsL,List.mem_append,ih]
  constructor
  ·rintro (h|⟨k',t',hm,h⟩)
   ·exact⟨k,t,by simp,h⟩
   ·exact⟨k',t',by simp[hm],h⟩
  ·rintro⟨k',t',hm,h⟩
   rcases List.mem_cons.1 hm with e|hm
   ·cases e;exact .inl h
   ·exact .inr ⟨k',t',hm,h⟩
theorem Jm {es:List En}{ks:List Kd}{x:Lf}:x∈(Tr.mk es ks).lvs []↔(x.1=[]/\x.2∈es)∨∃ k t qs,(k,t)∈ks/\x.1=k :: qs/\(qs,x.2)∈t.lvs []:=by
 rw[Tr.lvs,List.mem_append,qQf]
 constructor
 ·rintro (h|⟨k,t,hm,h⟩)
  ·obtain⟨e,he,rfl⟩:=List.mem_map.1 h
   exact .inl ⟨rfl,he⟩
  ·rw[qZc]at h
   obtain⟨y,hy,rfl⟩:=List.mem_map.1 h
   exact .inr ⟨k,t,y.1,hm,rfl,hy⟩
 ·obtain⟨p,e⟩:=x
  rintro (⟨h1,h2⟩|⟨k,t,qs,hm,h1,h2⟩)
  ·cases h1;exact .inl (List.mem_map.2 ⟨e,h2,rfl⟩)
  ·cases h1;exact .inr ⟨k,t,hm,by rw[qZc];exact List.mem_map.2 ⟨(qs,e),h2,rfl⟩⟩
theorem QO {es:List En}{ks:List Kd}{e:En}:(([],e):Lf)∈(Tr.mk es ks).lvs []↔e∈es:=by
 rw[Jm];simp
theorem Qq {es:List En}{ks:List Kd}{e:En}{k:ByteArray}{qs:List ByteArray}:((k :: qs,e):Lf)∈(Tr.mk es ks).lvs []↔∃ t,(k,t)∈ks/\(qs,e)∈t.lvs []:=by
 rw[Jm]
 constructor
 ·rintro (⟨h,_⟩|⟨k',t,qs',hm,h,h2⟩)
  ·cases h
  ·cases h;exact⟨t,hm,h2⟩
 ·rintro⟨t,hm,h⟩;exact .inr ⟨k,t,qs,hm,rfl,h⟩
theorem Xm:∀ (t:Tr),t.Ord->t.empty=false->∃ x,x∈t.lvs []:=by
 intro t
 induction t using Tr.ind with
 |h es ks ih=>
 intro h he
 obtain⟨_,_,h3⟩:=QX.1 h
 cases es with
 |cons e es=>exact⟨([],e),QO.2 (by simp)⟩
 |nil=>
  cases ks with
  |nil=>simp[Tr.empty]at he
  |cons y ks=>
   obtain⟨k,t⟩:=y
   obtain⟨x,hx⟩:=ih k t (by simp) (h3 k t (by simp)).2.2 (h3 k t (by simp)).2.1
   exact⟨(k :: x.1,x.2),Qq.2 ⟨t,by simp,hx⟩⟩
theorem Z7 {α:Type}{r:α->α->Bool}(hi:∀ a,r a a=false)(ht:∀ a b c,r a b=true->r b c=true->r a c=true):∀ {l m:List α},(l.Pairwise fun a b=>r a b=true)->(m.Pairwise fun a b=>r a b=true)->(∀ x,x∈l↔x∈m)->l=m
 |[],[],_,_,_=>rfl
 |[],y :: m,_,_,h=>by have:=(h y).2 (by simp);cases this
 |x :: l,[],_,_,h=>by have:=(h x).1 (by simp);cases this
 |x :: l,y :: m,hl,hm,h=>by
  rw[List.pairwise_cons]at hl hm
  have hxy:x=y:=by
   rcases List.mem_cons.1 ((h x).1 (by simp)) with e|e
   ·exact e
   ·rcases List.mem_cons.1 ((h y).2 (by simp)) with e'|e'
    ·exact e'.symm
    ·have:=ht _ _ _ (hl.1 y e') (hm.1 x e);rw[hi]at this;cases this
  subst hxy
  congr 1
  refine Z7 hi ht hl.2 hm.2 fun z=>?_
  constructor
  ·intro hz
   rcases List.mem_cons.1 ((h z).1 (List.mem_cons_of_mem _ hz)) with e|e
   ·subst e;have:=hl.1 z hz;rw[hi]at this;cases this
   ·exact e
  ·intro hz
   rcases List.mem_cons.1 ((h z).2 (List.mem_cons_of_mem _ hz)) with e|e
   ·subst e;have:=hm.1 z hz;rw[hi]at this;cases this
   ·exact e
theorem ZN {ks:List Kd}(h:ks.Pairwise fun a b=>ltS a.1 b.1=true){k:ByteArray}{s t:Tr}(hs:(k,s)∈ks)(ht:(k,t)∈ks):s=t:=by
 induction ks with
 |nil=>cases hs
 |cons y ks ih=>
  rw[List.pairwise_cons]at h
  rcases List.mem_cons.1 hs with e|hs
  ·rcases List.mem_cons.1 ht with e'|ht
   ·rw[←e]at e';cases e';rfl
   ·have:=h.1 _ ht;rw[←e]at this;simp only[QH]at this;cases this
  ·rcases List.mem_cons.1 ht with e'|ht
   ·have:=h.1 _ hs;rw[←e']at this;simp only[QH]at this;cases this
   ·exact ih h.2 hs ht
theorem Vm:∀ (s t:Tr),s.Ord->t.Ord->(∀ x,x∈s.lvs []↔x∈t.lvs [])->s=t:=by
 intro s
 induction s using Tr.ind with
 |h es ks ih=>
 intro t hs ht h
 obtain⟨es',ks'⟩:=t
 obtain⟨s1,s2,s3⟩:=QX.1 hs
 obtain⟨t1,t2,t3⟩:=QX.1 ht
 have he:es=es':=Z7 (r:=fun a b:En=>a.dot.lt b.dot) (fun a=>Q9 _) (fun _ _ _=>Zk) s1 t1 fun e=>by
  rw[←QO (ks:=ks),←QO (ks:=ks')];exact h _
 have hk:∀ k s,(k,s)∈ks->(k,s)∈ks':=fun k s hm=>by
  obtain⟨h1,h2,h3⟩:=s3 k s hm
  obtain⟨x,hx⟩:=Xm s h3 h2
  obtain⟨u,hu,hxu⟩:=Qq.1 ((h (k :: x.1,x.2)).1 (Qq.2 ⟨s,hm,hx⟩))
  have:s=u:=ih k s hm u h3 (t3 k u hu).2.2 fun y=>by
   constructor
   ·intro hy
    obtain⟨v,hv,hyv⟩:=Qq.1 ((h (k :: y.1,y.2)).1 (Qq.2 ⟨s,hm,hy⟩))
    rw[ZN t2 hu hv];exact hyv
   ·intro hy
    obtain⟨v,hv,hyv⟩:=Qq.1 ((h (k :: y.1,y.2)).2 (Qq.2 ⟨u,hu,hy⟩))
    rw[ZN s2 hm hv];exact hyv
  rw[this];exact hu
 have hk':∀ k u,(k,u)∈ks'->(k,u)∈ks:=fun k u hm=>by
  obtain⟨h1,h2,h3⟩:=t3 k u hm
  obtain⟨x,hx⟩:=Xm u h3 h2
  obtain⟨s,hs',_⟩:=Qq.1 ((h (k :: x.1,x.2)).2 (Qq.2 ⟨u,hm,hx⟩))
  have:=ZN t2 hm (hk k s hs')
  rw[this];exact hs'
 have hkk:ks=ks':=Z7 (r:=fun a b:Kd=>ltS a.1 b.1) (fun a=>QH _) (fun _ _ _=>QM) s2 t2 fun ⟨k,t⟩=>⟨hk k t,hk' k t⟩
 rw[he,hkk]
/-! what Build takes -/
theorem JX (l:List Lf)(last:Option Dt):∀ (b:Option En),(∀ c,b=some c->∃ e,l.foldl (selS last) b=some e/\c.dot.lt e.dot=false)/\∀ x∈l,x.1=[]->okP last x.2.dot=true->∃ e,l.foldl (selS last) b=some e/\x.2.dot.lt e.dot=false:=by
 induction l with
 |nil=>intro b;exact⟨fun c h=>⟨c,h,Q9 _⟩,fun _ h=>by cases h⟩
 |cons y l ih=>
  intro b
  rw[List.foldl_cons]
  obtain⟨i1,i2⟩:=ih (selS last b y)
  refine⟨fun c hc=>?_,fun x hx h1 h2=>?_⟩
  ·subst hc
   by_cases hs:selC last (some c) y=true
   ·obtain⟨e,he,hle⟩:=i1 y.2 (by simp[selS,hs])
    refine⟨e,he,?_⟩
    simp only[selC,Bool.and_eq_true]at hs
    cases hce:c.dot.lt e.dot
    ·rfl
    ·rw[Zk hs.2 hce]at hle;cases hle
   ·exact i1 c (by simp[selS,hs])
  ·rcases List.mem_cons.1 hx with rfl|hx
   ·cases b with
    |none=>
     have hs:selC last none x=true:=by simp[selC,h1,h2]
     exact i1 x.2 (by simp[selS,hs])
    |some c=>
     by_cases hs:selC last (some c) x=true
     ·exact i1 x.2 (by simp[selS,hs])
     ·obtain⟨e,he,hle⟩:=i1 c (by simp[selS,hs])
      refine⟨e,he,?_⟩
      have hxc:x.2.dot.lt c.dot=false:=by
       cases hxc:x.2.dot.lt c.dot
       ·rfl
       ·exact absurd (by simp[selC,h1,h2,hxc]) hs
      cases hxe:x.2.dot.lt e.dot
      ·rfl
      ·cases hec:e.dot.lt c.dot
       ·have:=XG hec hle;rw[this]at hxe;rw[hxe]at hxc;cases hxc
       ·rw[Zk hxe hec]at hxc;cases hxc
   ·exact i2 x hx h1 h2
theorem Yu (l:List Lf):∀ (n:Nat) (es:List En),ahE l (es.getLast?.map En.dot)<n->(es.Pairwise fun a b=>a.dot.lt b.dot=true)->(∀ e∈es,(([],e):Lf)∈l)->(∀ x∈l,x.1=[]->okP (es.getLast?.map En.dot) x.2.dot=false->∃ e∈es,e.dot=x.2.dot) ->
  ((ZF l n es).Pairwise fun a b=>a.dot.lt b.dot=true)/\(∀ e∈ZF l n es,(([],e):Lf)∈l)/\∀ x∈l,x.1=[]->∃ e∈ZF l n es,e.dot=x.2.dot
 |0,_,h,_,_,_=>absurd h (Nat.not_lt_zero _)
 |n+1,es,h,h1,h2,h3=>by
  rw[ZF]
  cases hb:bestE l (es.getLast?.map En.dot) with
  |none=>
   refine⟨h1,h2,fun x hx hx1=>?_⟩
   cases ho:okP (es.getLast?.map En.dot) x.2.dot
   ·exact h3 x hx hx1 ho
   ·obtain⟨e,he,_⟩:=(JX l (es.getLast?.map En.dot) none).2 x hx hx1 ho
    unfold bestE at hb;rw[hb]at he;cases he
  |some e=>
   obtain⟨⟨y,hy,hy1,hy2⟩,hok⟩:=Z1 hb
   have hle:(es++[e]).getLast?.map En.dot=some e.dot:=by simp
   refine Yu l n (es++[e]) ?_ ?_ ?_ ?_
   ·rw[hle];have:=qZa hb;omega
   ·rw[List.pairwise_append]
    refine⟨h1,List.pairwise_singleton _ _,fun a ha b hb'=>?_⟩
    rw[List.mem_singleton]at hb';subst hb'
    rcases List.eq_nil_or_concat es with rfl|⟨es',z,rfl⟩
    ·cases ha
    ·rw[List.concat_eq_append]at *
     rw[List.getLast?_append]at hok
     have hz:z.dot.lt b.dot=true:=hok
     rcases List.mem_append.1 ha with ha|ha
     ·exact Zk ((List.pairwise_append.1 h1).2.2 a ha z (by simp)) hz
     ·rw[List.mem_singleton]at ha;subst ha;exact hz
   ·intro a ha
    rcases List.mem_append.1 ha with ha|ha
    ·exact h2 a ha
    ·rw[List.mem_singleton]at ha;subst ha
     obtain⟨p,e'⟩:=y
     simp only at hy1 hy2;subst hy1;subst hy2;exact hy
   ·intro x hx hx1 ho
    rw[hle]at ho
    have ho:e.dot.lt x.2.dot=false:=ho
    cases ho':okP (es.getLast?.map En.dot) x.2.dot
    ·obtain⟨a,ha,hae⟩:=h3 x hx hx1 ho'
     exact⟨a,List.mem_append_left _ ha,hae⟩
    ·obtain⟨e',he',hm⟩:=(JX l (es.getLast?.map En.dot) none).2 x hx hx1 ho'
     unfold bestE at hb;rw[hb]at he';cases he'
     exact⟨e,by simp,XG ho hm⟩
theorem XJ (l:List Lf):((Q5 l).Pairwise fun a b=>a.dot.lt b.dot=true)/\(∀ e∈Q5 l,(([],e):Lf)∈l)/\∀ x∈l,x.1=[]->∃ e∈Q5 l,e.dot=x.2.dot:=
 Yu l _ [] (by have:=K6 l (([]:List En).getLast?.map En.dot);omega) .nil (fun _ h=>by cases h) (fun x _ _ h=>by simp[okP]at h)
theorem JY (l:List Lf)(last:ByteArray):∀ (b:ByteArray),(b≠ByteArray.empty->l.foldl (keyS last) b≠ByteArray.empty/\ltS b (l.foldl (keyS last) b)=false)/\∀ x∈l,∀ q qs,x.1=q :: qs->ltS last q=true->l.foldl (keyS last) b≠ByteArray.empty/\ltS q (l.foldl (keyS last) b)=false:=by
 induction l with
 |nil=>intro b;exact⟨fun h=>⟨h,QH _⟩,fun _ h=>by cases h⟩
 |cons y l ih=>
  intro b
  rw[List.foldl_cons]
  obtain⟨i1,i2⟩:=ih (keyS last b y)
  have hne:∀ q:ByteArray,ltS last q=true->q≠ByteArray.empty:=fun q h e=>by rw[e,Ys]at h;cases h
  refine⟨fun hb=>?_,fun x hx q qs h1 h2=>?_⟩
  ·by_cases hs:keyC last b y=true
   ·obtain⟨p,e⟩:=y
    cases p with
    |nil=>simp[keyC]at hs
    |cons q qs=>
     have e1:keyS last b (q :: qs,e)=q:=by simp[keyS,hs]
     rw[e1]at i1 ⊢
     simp only[keyC,Bool.and_eq_true,Bool.or_eq_true,decide_eq_true_eq]at hs
     obtain⟨j1,j2⟩:=i1 (hne q hs.1)
     refine⟨j1,?_⟩
     cases hc:ltS b (l.foldl (keyS last) q)
     ·rfl
     ·rcases hs.2 with h|h
      ·exact absurd h hb
      ·rw[QM h hc]at j2;cases j2
   ·have e1:keyS last b y=b:=by simp[keyS,hs]
    rw[e1]at i1 ⊢;exact i1 hb
  ·rcases List.mem_cons.1 hx with rfl|hx
   ·obtain⟨p,e⟩:=x
    simp only at h1;subst h1
    by_cases hs:keyC last b (q :: qs,e)=true
    ·have e1:keyS last b (q :: qs,e)=q:=by simp[keyS,hs]
     rw[e1]at i1 ⊢;exact i1 (hne q h2)
    ·have e1:keyS last b (q :: qs,e)=b:=by simp[keyS,hs]
     rw[e1]at i1 ⊢
     simp only[keyC,h2,Bool.true_and,Bool.or_eq_true,decide_eq_true_eq,not_or]at hs
     obtain⟨j1,j2⟩:=i1 hs.1
     refine⟨j1,?_⟩
     cases hc:ltS q (l.foldl (keyS last) b)
     ·rfl
     ·have hqb:ltS q b=false:=by simpa using hs.2
      cases hcb:ltS (l.foldl (keyS last) b) b
      ·have:=ZE hcb j2;rw[this]at hc;rw[hc]at hqb;cases hqb
      ·rw[QM hc hcb]at hqb;cases hqb
   ·exact i2 x hx q qs h1 h2
theorem Yv (f:List Lf->Tr)(l:List Lf):∀ (n:Nat) (last:ByteArray),ahK l last<n->((QU f l n last).Pairwise fun a b=>ltS a.1 b.1=true) /\
  (∀ k t,(k,t)∈QU f l n last->ltS last k=true/\t=f (Qn l k)/\∃ x∈l,∃ qs,x.1=k :: qs)/\∀ x∈l,∀ q qs,x.1=q :: qs->ltS last q=true->(q,f (Qn l q))∈QU f l n last
 |0,_,h=>absurd h (Nat.not_lt_zero _)
 |n+1,last,h=>by
  rw[QU]
  by_cases hb:bestK l last=ByteArray.empty
  ·rw[if_pos hb]
   refine⟨.nil,fun _ _ h=>(by cases h),fun x hx q qs h1 h2=>?_⟩
   exact absurd hb ((JY l last ByteArray.empty).2 x hx q qs h1 h2).1
  ·rw[if_neg hb]
   obtain⟨hm,hlt⟩:=Z2 hb
   obtain⟨i1,i2,i3⟩:=Yv f l n (bestK l last) (by have:=qZb hb;omega)
   refine⟨.cons (fun a ha=>(i2 a.1 a.2 ha).1) i1,fun k t hkt=>?_,fun x hx q qs h1 h2=>?_⟩
   ·rcases List.mem_cons.1 hkt with e|e
    ·cases e;exact⟨hlt,rfl,hm⟩
    ·obtain⟨j1,j2,j3⟩:=i2 k t e
     exact⟨QM hlt j1,j2,j3⟩
   ·obtain⟨_,hmin⟩:=(JY l last ByteArray.empty).2 x hx q qs h1 h2
    cases hq:ltS (bestK l last) q
    ·have:=ZE hq hmin
     rw[←this];exact List.mem_cons_self
    ·exact List.mem_cons_of_mem _ (i3 x hx q qs h1 hq)
theorem QY {l:List Lf}{q:ByteArray}{qs:List ByteArray}{e:En}:((qs,e):Lf)∈Qn l q↔((q :: qs,e):Lf)∈l:=by
 unfold Qn
 rw[List.mem_filterMap]
 constructor
 ·rintro⟨⟨p,e'⟩,hx,hu⟩
  cases p with
  |nil=>simp[Q8]at hu
  |cons a ps=>
   by_cases ha:a=q
   ·simp[Q8,ha]at hu;obtain⟨rfl,rfl⟩:=hu;rw[←ha];exact hx
   ·simp[Q8,ha]at hu
 ·intro h;exact⟨_,h,by simp[Q8]⟩
structure LvOk (l:List Lf):Prop where
 key:∀ x∈l,∀ k∈x.1,k≠ByteArray.empty
 one:∀ x∈l,∀ y∈l,x.1=y.1->x.2.dot=y.2.dot->x=y
theorem LvOk.under {l:List Lf}(h:LvOk l)(q:ByteArray):LvOk (Qn l q):=
 ⟨fun x hx k hk=>h.key (q :: x.1,x.2) (QY.1 hx) k (List.mem_cons_of_mem _ hk),fun x hx y hy h1 h2=>by
  have:=h.one (q :: x.1,x.2) (QY.1 hx) (q :: y.1,y.2) (QY.1 hy) (by rw[h1]) h2
  obtain⟨p,e⟩:=x
  obtain⟨p',e'⟩:=y
  simp only[Prod.mk.injEq,List.cons.injEq,true_and]at this
  rw[this.1,this.2]⟩
def topT (d:Nat):List Lf->Tr:=match d with|0=>fun _=>.mk [] []|d+1=>Yn d
theorem Vn (d:Nat)(l:List Lf):Yn d l=.mk (Q5 l) (QU (topT d) l (l.length+1) ByteArray.empty):=by
 cases d<;>rfl
theorem YU:∀ (d:Nat) (l:List Lf),(∀ x∈l,x.1.length<=d)->LvOk l->(Yn d l).Ord/\∀ x,x∈(Yn d l).lvs []↔x∈l
 |d,l,hd,hl=>by
  rw[Vn]
  obtain⟨e1,e2,e3⟩:=XJ l
  obtain⟨k1,k2,k3⟩:=Yv (topT d) l (l.length+1) ByteArray.empty (by have:=K8 l ByteArray.empty;omega)
  have hne:∀ q:ByteArray,q≠ByteArray.empty->ltS ByteArray.empty q=true:=fun q h=>by
   cases hq:ltS ByteArray.empty q
   ·exact absurd (ZE (Ys q) hq) h
   ·rfl
  have ih:∀ k t,(k,t)∈QU (topT d) l (l.length+1) ByteArray.empty->t.Ord/\(∀ x,x∈t.lvs []↔x∈Qn l k)/\∃ x,x∈Qn l k:=fun k t hm=>by
   obtain⟨h1,h2,x,hx,qs,h3⟩:=k2 k t hm
   have hu:((qs,x.2):Lf)∈Qn l k:=QY.2 (by rw[←h3];exact hx)
   cases d with
   |zero=>have:=hd x hx;rw[h3]at this;simp at this
   |succ d=>
    obtain⟨i1,i2⟩:=YU d (Qn l k) (fun y hy=>by have:=hd _ (QY.1 hy);simp at this;exact this) (hl.under k)
    rw[h2];exact⟨i1,i2,_,hu⟩
  refine⟨Ord.mk' e1 k1 fun k t hm=>?_,fun x=>?_⟩
  ·obtain⟨i1,i2,x,hx⟩:=ih k t hm
   refine⟨fun e=>?_,?_,i1⟩
   ·have:=(k2 k t hm).1;rw[e,Ys]at this;cases this
   ·cases he:t.empty
    ·rfl
    ·obtain⟨es,ks⟩:=t
     simp[Tr.empty]at he
     obtain⟨rfl,rfl⟩:=he
     have:=(i2 x).2 hx
     simp[Tr.lvs,Tr.lvsL]at this
  ·obtain⟨p,e⟩:=x
   cases p with
   |nil=>
    rw[QO]
    constructor
    ·exact e2 e
    ·intro h
     obtain⟨e',he',hd'⟩:=e3 _ h rfl
     have:=hl.one _ (e2 e' he') _ h rfl hd'
     cases this;exact he'
   |cons k qs=>
    rw[Qq]
    constructor
    ·rintro⟨t,hm,h⟩
     exact QY.1 (((ih k t hm).2.1 _).1 h)
    ·intro h
     have hm:=k3 _ h k qs rfl (hne k (hl.key _ h k (by simp)))
     exact⟨_,hm,((ih k _ hm).2.1 _).2 (QY.2 h)⟩
theorem Jn {l:List Lf}(h:LvOk l):(Qp l).Ord/\∀ x,x∈(Qp l).lvs []↔x∈l:=YU _ l (fun _ hx=>JW hx) h
theorem qQg:∀ (t:Tr),t.Ord->LvOk (t.lvs []):=by
 intro t
 induction t using Tr.ind with
 |h es ks ih=>
 intro h
 obtain⟨h1,h2,h3⟩:=QX.1 h
 refine⟨fun x hx k hk=>?_,fun x hx y hy hp hd=>?_⟩
 ·rcases Jm.1 hx with⟨hn,_⟩|⟨k',t,qs,hm,hq,hl⟩
  ·rw[hn]at hk;cases hk
  ·rw[hq]at hk
   rcases List.mem_cons.1 hk with rfl|hk
   ·exact (h3 _ t hm).1
   ·exact (ih k' t hm (h3 k' t hm).2.2).key _ hl k hk
 ·obtain⟨p,e⟩:=x
  obtain⟨p',e'⟩:=y
  simp only at hp hd;subst hp
  cases p with
  |nil=>
   have a:=QO.1 hx
   have b:=QO.1 hy
   have:e=e':=by
    clear hx hy h ih h2 h3
    induction es with
    |nil=>cases a
    |cons z es ih=>
     rw[List.pairwise_cons]at h1
     rcases List.mem_cons.1 a with a'|a'
     ·rcases List.mem_cons.1 b with b'|b'
      ·rw[a',b']
      ·have:=h1.1 _ b';rw[←hd,a',Q9]at this;cases this
     ·rcases List.mem_cons.1 b with b'|b'
      ·have:=h1.1 _ a';rw[hd,b',Q9]at this;cases this
      ·exact ih h1.2 a' b'
   rw[this]
  |cons k qs=>
   obtain⟨t,hm,ha⟩:=Qq.1 hx
   obtain⟨t',hm',hb⟩:=Qq.1 hy
   rw[ZN h2 hm' hm]at hb
   have:=(ih k t hm (h3 k t hm).2.2).one _ ha _ hb rfl hd
   cases this;rfl
theorem qQh {t:Tr}{l:List Lf}(h:t.Ord)(hl:LvOk l)(he:∀ x,x∈l↔x∈t.lvs []):Qp l=t:=by
 obtain⟨h1,h2⟩:=Jn hl
 exact Vm _ _ h1 h fun x=>(h2 x).trans (he x)
def kidT (t:Tr)(s:ByteArray):Tr:=match t.ks.find? fun x=>decide (x.1=s) with|some x=>x.2|none=>.mk [] []
theorem Vo:Tr.Ord (.mk [] []):=Ord.mk' .nil .nil fun _ _ h=>by cases h
theorem Xn {t:Tr}(h:t.Ord){s:ByteArray}{u:Tr}(hm:(s,u)∈t.ks):kidT t s=u:=by
 obtain⟨es,ks⟩:=t
 unfold kidT
 cases hf:(Tr.mk es ks).ks.find? fun x=>decide (x.1=s) with
 |none=>
  have:=List.find?_eq_none.1 hf _ hm
  simp at this
 |some x=>
  have h1:=List.find?_some hf
  have h2:=List.mem_of_find?_eq_some hf
  simp at h1
  obtain⟨k,v⟩:=x
  simp only at h1;subst h1
  exact ZN (QX.1 h).2.1 h2 hm
theorem Yw {t:Tr}{s:ByteArray}(h:∀ u,(s,u)∉t.ks):kidT t s=.mk [] []:=by
 unfold kidT
 rw[List.find?_eq_none.2]
 rintro⟨k,u⟩ hm e
 simp at e;subst e
 exact h u hm
theorem JZ {t:Tr}(h:t.Ord)(s:ByteArray):(kidT t s).Ord:=by
 by_cases hm:∃ u,(s,u)∈t.ks
 ·obtain⟨u,hm⟩:=hm
  rw[Xn h hm]
  obtain⟨es,ks⟩:=t
  exact ((QX.1 h).2.2 s u hm).2.2
 ·rw[Yw fun u hu=>hm ⟨u,hu⟩];exact Vo
theorem J2 {s:ByteArray}:∀ {ks:List Kd}{x:Kd},ks.find? (fun x=>decide (x.1=s))=some x->x.2.sz<=Tr.szL ks
 |(k,t) :: ks,x,h=>by
  rw[Tr.szL]
  rw[List.find?_cons]at h
  split at h
  ·cases h;simp;omega
  ·have:=J2 h;omega
theorem Vp (t:Tr)(s:ByteArray):(kidT t s).sz<=t.sz:=by
 obtain⟨es,ks⟩:=t
 unfold kidT
 cases hf:(Tr.mk es ks).ks.find? fun x=>decide (x.1=s) with
 |none=>simp[Tr.sz,Tr.szL]
 |some x=>
  have:=J2 (show ks.find? _=some x from hf)
  rw[Tr.sz];simp only;omega
theorem Xo (w:World)(ok:Nat->Prop):(Tr.mk [] []).rda w ok (.slice none 0 0) (.slice none 0 0):=by
 rw[Zh]
 exact⟨⟨none,0,rfl,Nat.le_refl _,by simp,fun h=>absurd rfl h⟩,⟨none,0,rfl,Nat.le_refl _,by simp,fun h=>absurd rfl h⟩⟩
theorem box3 {w:World}{g:Nat}{x y z:Value}{e:TypeId}(hbx:w.heap[g]?=some (.cells #[x,y,z] e (0,0)))(a b c:Value) :
  (((w.setCell ⟨g,0,none⟩ a).setCell ⟨g,1,none⟩ b).setCell ⟨g,2,none⟩ c).cell? ⟨g,0,none⟩=some a/\(((w.setCell ⟨g,0,none⟩ a).setCell ⟨g,1,none⟩ b).setCell ⟨g,2,none⟩ c).cell? ⟨g,1,none⟩=some b/\(((w.setCell ⟨g,0,none⟩ a).setCell ⟨g,1,none⟩ b).setCell ⟨g,2,none⟩ c).cell? ⟨g,2,none⟩=some c /\
   (∀ k,k≠g->(((w.setCell ⟨g,0,none⟩ a).setCell ⟨g,1,none⟩ b).setCell ⟨g,2,none⟩ c).heap[k]?=w.heap[k]?)/\(((w.setCell ⟨g,0,none⟩ a).setCell ⟨g,1,none⟩ b).setCell ⟨g,2,none⟩ c).heap.size=w.heap.size:=by
 have hW:=Qd (i:=2) (Qd (i:=1) (Qd (i:=0) hbx a) b) c
 exact⟨(Qa (i:=0) hW).trans (by simp),(Qa (i:=1) hW).trans (by simp),(Qa (i:=2) hW).trans (by simp),
  fun k hk=>(Below.heap_setCell _ _ _ _ hk).trans ((Below.heap_setCell _ _ _ _ hk).trans (Below.heap_setCell _ _ _ _ hk)),by simp[World.setCell]⟩
def RetC (w:World)(t:Tr)(c:List Sp)(e:Ending)(w':World):Prop:=
 ∃ ve vk vc,e=.returned (.agg #[ve,vk,vc])/\t.rda w' (fun b=>w.heap.size<=b/\b<w'.heap.size) ve vk/\SlA w' (fun b=>w.heap.size<=b/\b<w'.heap.size) 3 SpE vc c/\Below w.heap.size w w'
def runOk (r:Int×Int):Prop:=1<=r.1/\r.1<=r.2/\r.2<=1099511627776
theorem Qo (p:Option Int)(r:Int×Int)(rs:List (Int×Int)):runsR p (r :: rs)=true↔runOk r/\okR p r.1=true/\runsR (some r.2) rs=true:=by
 rw[Z3]
 simp only[Bool.and_eq_true,numB,decide_eq_true_eq,runOk]
 constructor
 ·rintro⟨⟨⟨⟨h1,h2⟩,h3⟩,h4⟩,h5⟩;exact⟨by omega,h4,h5⟩
 ·rintro⟨h1,h4,h5⟩;exact⟨⟨⟨⟨by omega,by omega⟩,by omega⟩,h4⟩,h5⟩
theorem Vv (p:Option Int):runsR p []=true:=by cases p<;>rfl
theorem Zb (p:Option Int)(r:Int×Int):runsR p [r]=true↔runOk r/\okR p r.1=true:=by rw[Qo,Vv];simp
theorem Z8:∀ (L:List (Int×Int)) (p:Option Int) (q r:Int×Int),runsR p (L++[q]++[r])=true↔runsR p (L++[q])=true/\runOk r/\q.2+1<r.1
 |[],p,q,r=>by
  rw[List.nil_append,Zb,List.cons_append,Qo,List.nil_append,Zb]
  simp only[okR,decide_eq_true_eq,and_assoc]
 |x :: L,p,q,r=>by
  rw[List.cons_append,List.cons_append,Qo,Qo,Z8 L (some x.2) q r]
  simp only[and_assoc]
theorem Zr:∀ (L:List (Int×Int)) (p:Option Int) (q:Int×Int),runsR p (L++[q])=true->runOk q
 |[],p,q,h=>((Zb p q).1 h).1
 |x :: L,p,q,h=>by
  rw[List.cons_append,Qo]at h
  exact Zr L _ q h.2.2
theorem Z9:∀ (L:List (Int×Int)) (p:Option Int) (q:Int×Int) (m:Int),runsR p (L++[q])=true->q.2<=m->m<=1099511627776->runsR p (L++[(q.1,m)])=true
 |[],p,q,m,h,h1,h2=>by
  rw[List.nil_append,Zb]at h ⊢
  obtain⟨h,h'⟩:=h
  unfold runOk at *
  exact⟨⟨h.1,by show q.1<=m;omega,h2⟩,h'⟩
 |x :: L,p,q,m,h,h1,h2=>by
  rw[List.cons_append,Qo]at h ⊢
  exact⟨h.1,h.2.1,Z9 L _ q m h.2.2 h1 h2⟩
theorem Q2 (a b:List (Int×Int))(n:Int):hasL (a++b) n=(hasL a n||hasL b n):=by simp[hasL]
theorem Jq:∀ (l:List (Int×Int)) (p:Int),runsR (some p) l=true->∀ n,hasL l n=true->p+1<n
 |[],p,_,n,h=>by simp[hasL]at h
 |r :: l,p,hr,n,h=>by
  rw[Qo]at hr
  obtain⟨h1,h2,h3⟩:=hr
  simp only[okR,decide_eq_true_eq]at h2
  simp only[hasL,List.any_cons,Bool.or_eq_true,inR,Bool.and_eq_true,decide_eq_true_eq]at h
  unfold runOk at h1
  rcases h with h|h
  ·omega
  ·have:=Jq l r.2 h3 n (by simpa[hasL,inR] using h)
   omega
theorem Yz:∀ (a b:List (Int×Int)) (p q:Option Int),runsR p a=true->runsR q b=true->(∀ n,hasL a n=hasL b n)->a=b
 |[],[],_,_,_,_,_=>rfl
 |[],r :: b,_,q,_,hb,h=>by
  rw[Qo]at hb
  have:=h r.1
  simp[hasL,inR]at this
  have:=hb.1
  unfold runOk at this
  omega
 |r :: a,[],p,_,ha,_,h=>by
  rw[Qo]at ha
  have:=h r.1
  simp[hasL,inR]at this
  have:=ha.1
  unfold runOk at this
  omega
 |r :: a,s :: b,p,q,ha,hb,h=>by
  rw[Qo]at ha hb
  obtain⟨a1,a2,a3⟩:=ha
  obtain⟨b1,b2,b3⟩:=hb
  have ha':=Jq a r.2 a3
  have hb':=Jq b s.2 b3
  have hc:∀ (x:Int×Int) (l:List (Int×Int)) n,hasL (x :: l) n=(inR x n||hasL l n):=fun x l n=>by simp[hasL]
  have hin:∀ (x:Int×Int) n,inR x n=true↔x.1<=n/\n<=x.2:=fun x n=>by simp[inR]
  unfold runOk at a1 b1
  have key:∀ n,(inR r n=true∨hasL a n=true)↔(inR s n=true∨hasL b n=true):=fun n=>by
   have:=h n;rw[hc,hc,Bool.eq_iff_iff]at this;simpa using this
  have e1:r.1=s.1:=by
   have k1:=(key r.1).1 (.inl ((hin r _).2 ⟨by omega,by omega⟩))
   have k2:=(key s.1).2 (.inl ((hin s _).2 ⟨by omega,by omega⟩))
   rw[hin]at k1 k2
   have:=hb' r.1;have:=ha' s.1
   rcases k1 with k1|k1<;>rcases k2 with k2|k2
   ·omega
   ·have:=ha' s.1 k2;omega
   ·have:=hb' r.1 k1;omega
   ·have:=hb' r.1 k1;have:=ha' s.1 k2;omega
  have e2:r.2=s.2:=by
   have k1:=(key r.2).1 (.inl ((hin r _).2 ⟨by omega,by omega⟩))
   have k2:=(key s.2).2 (.inl ((hin s _).2 ⟨by omega,by omega⟩))
   have k3:=key (r.2+1)
   have k4:=key (s.2+1)
   rw[hin]at k1 k2
   rw[hin,hin]at k3 k4
   rcases Int.lt_trichotomy r.2 s.2 with hlt|heq|hgt
   ·have:=k3.2 (.inl ⟨by omega,by omega⟩)
    rcases this with h|h
    ·omega
    ·have:=ha' _ h;omega
   ·exact heq
   ·have:=k4.1 (.inl ⟨by omega,by omega⟩)
    rcases this with h|h
    ·omega
    ·have:=hb' _ h;omega
  have e:r=s:=Prod.ext e1 e2
  subst e
  congr 1
  refine Yz a b _ _ a3 b3 fun n=>?_
  by_cases hn:inR r n=true
  ·rw[hin]at hn
   have x1:hasL a n=false:=by
    cases hx:hasL a n with
    |false=>rfl
    |true=>have:=ha' n hx;omega
   have x2:hasL b n=false:=by
    cases hx:hasL b n with
    |false=>rfl
    |true=>have:=hb' n hx;omega
   rw[x1,x2]
  ·have:=key n
   simp only[hn]at this
   rw[Bool.eq_iff_iff]
   simpa using this
theorem ZA:∀ (l:List Int) (a:Int) (s:Int×Bool),(s.2=true->a<s.1)->(∀ y,(y∈l/\a<y∨(s.2=true/\y=s.1))->(l.foldl (nextS a) s).2=true/\(l.foldl (nextS a) s).1<=y)
 |[],a,s,hs,y,h=>by
  rcases h with h|h
  ·cases h.1
  ·exact⟨h.1,by rw[h.2];exact Int.le_refl _⟩
 |x :: l,a,s,hs,y,h=>by
  rw[List.foldl_cons]
  by_cases hc:a<x/\(s.2=false∨x<s.1)
  ·have e:nextS a s x=(x,true):=by simp[nextS,hc]
   rw[e]
   have ih:=ZA l a (x,true) (fun _=>hc.1)
   rcases h with⟨h,hy⟩|h
   ·rcases List.mem_cons.1 h with rfl|h
    ·exact ih y (.inr ⟨rfl,rfl⟩)
    ·exact ih y (.inl ⟨h,hy⟩)
   ·have:=ih x (.inr ⟨rfl,rfl⟩)
    refine⟨this.1,?_⟩
    rcases hc.2 with h2|h2
    ·rw[h.1]at h2;cases h2
    ·have h3:=this.2;rw[h.2];omega
  ·have e:nextS a s x=s:=by simp only[nextS,if_neg hc]
   rw[e]
   have ih:=ZA l a s hs
   rcases h with⟨h,hy⟩|h
   ·rcases List.mem_cons.1 h with rfl|h
    ·cases hs2:s.2 with
     |false=>exact absurd ⟨hy,.inl hs2⟩ hc
     |true=>
      have hle:s.1<=y:=by
       rcases Int.lt_or_le y s.1 with h|h
       ·exact absurd ⟨hy,.inr h⟩ hc
       ·exact h
      have:=ih s.1 (.inr ⟨hs2,rfl⟩)
      exact⟨this.1,by omega⟩
    ·exact ih y (.inl ⟨h,hy⟩)
   ·exact ih y (.inr h)
theorem XL {l:List Int}{a y:Int}(h:y∈l)(hy:a<y):(nextL l a).2=true/\(nextL l a).1<=y:=
 ZA l a (0,false) (fun h=>by cases h) y (.inl ⟨h,hy⟩)
theorem Xq {l:List Int}{a:Int}(h:(nextL l a).2=true):(nextL l a).1∈l/\a<(nextL l a).1/\∀ y∈l,a<y->(nextL l a).1<=y:=
 ⟨(QI h).1,(QI h).2,fun _ hy hlt=>(XL hy hlt).2⟩
theorem YA {l:List Int}{a:Int}(h:(nextL l a).2=false):∀ y∈l,y<=a:=fun y hy=>by
 rcases Int.lt_or_le a y with hlt|hle
 ·have:=(XL hy hlt).1;rw[h]at this;cases this
 ·exact hle
theorem XM {out:List (Int×Int)}{x:Int}(h:runsR none out=true)(hl:∀ n,hasL out n=true->n<=x):∀ q,out.getLast?=some q->q.2<=x:=fun q hq=>by
 obtain⟨L,rfl⟩:∃ L,out=L++[q]:=by
  rcases List.eq_nil_or_concat out with rfl|⟨L,r,rfl⟩
  ·simp at hq
  ·rw[List.concat_eq_append,List.getLast?_concat]at hq;cases hq;exact⟨L,List.concat_eq_append⟩
 have hqo:=Zr L none q h
 refine hl q.2 ?_
 rw[Q2]
 unfold runOk at hqo
 simp[hasL,inR]
 right;omega
theorem XN {out:List (Int×Int)}{x y:Int}(h:runsR none out=true)(hr:runOk (x,y))(ho:∀ q,out.getLast?=some q->q.2<x)(f:List (Int×Int))
  (hf:f=match out.getLast? with|some r=>if r.2=x-1 then out.set (out.length-1) (r.1,y) else out++[(x,y)]|none=>[(x,y)]) :
  runsR none f=true/\∀ n,hasL f n=(hasL out n||inR (x,y) n):=by
 subst hf
 rcases List.eq_nil_or_concat out with rfl|⟨L,q,rfl⟩
 ·exact⟨(Zb none (x,y)).2 ⟨hr,rfl⟩,fun n=>by simp[hasL]⟩
 ·rw[List.concat_eq_append]at *
  have hq:=ho q (by simp)
  have hqo:=Zr L none q h
  unfold runOk at *
  simp only at hr
  rw[List.getLast?_concat]
  dsimp only
  split
  ·rename_i hc
   have e:(L++[q]).set ((L++[q]).length-1) (q.1,y)=L++[(q.1,y)]:=by simp
   rw[e]
   refine⟨Z9 L none q _ h (by omega) (by omega),fun n=>?_⟩
   rw[Q2,Q2,Bool.or_assoc]
   congr 1
   rw[Bool.eq_iff_iff]
   simp[hasL,inR]
   omega
  ·rename_i hc
   refine⟨(Z8 L none q (x,y)).2 ⟨h,hr,by show q.2+1<x;omega⟩,fun n=>?_⟩
   rw[Q2];simp[hasL]
theorem YY (ps:List Int)(hps:∀ x∈ps,1<=x/\x<=1099511627776):∀ (n:Nat) (a:Int) (out:List (Int×Int)),cnt ps (a+1)<n->runsR none out=true->(∀ m,hasL out m=true↔m∈ps/\m<=a) ->
  runsR none (ofGo ps n (nextL ps a) out)=true/\∀ m,hasL (ofGo ps n (nextL ps a) out) m=true↔m∈ps
 |0,a,out,hn,_,_=>by omega
 |n+1,a,out,hn,hr,ho=>by
  rw[ofGo]
  split
  ·rename_i hk
   obtain⟨h1,h2,h3⟩:=Xq hk
   generalize (nextL ps a).1=x at *
   have hb:=hps x h1
   have hl:=XM hr (x:=a) (fun m hm=>((ho m).1 hm).2)
   obtain⟨k1,k2⟩:=XN (x:=x) (y:=x) hr ⟨by exact hb.1,by show x<=x;omega,by exact hb.2⟩ (fun q hq=>by have:=hl q hq;omega) (ofOut out x) rfl
   refine YY ps hps n x (ofOut out x) ?_ k1 fun m=>?_
   ·have:=JP (y:=x+1) h1 (by omega)
    have h4:cnt ps x<=cnt ps (a+1):=by
     unfold cnt
     rw[←List.countP_eq_length_filter,←List.countP_eq_length_filter]
     exact List.countP_mono_left fun z _ hz=>by simp at hz ⊢;omega
    omega
   ·rw[k2,Bool.or_eq_true,ho]
    simp only[inR,Bool.and_eq_true,decide_eq_true_eq]
    constructor
    ·rintro (h|h)
     ·exact⟨h.1,by omega⟩
     ·obtain rfl:m=x:=by omega
      exact⟨h1,by omega⟩
    ·rintro⟨hm,hle⟩
     by_cases hma:m<=a
     ·exact .inl ⟨hm,hma⟩
     ·have:=h3 m hm (by omega)
      exact .inr ⟨by omega,by omega⟩
  ·rename_i hk
   have hk':(nextL ps a).2=false:=by simpa using hk
   exact⟨hr,fun m=>(ho m).trans ⟨fun h=>h.1,fun h=>⟨h,YA hk' m h⟩⟩⟩
theorem ZP {ps:List Int}(hps:∀ x∈ps,1<=x/\x<=1099511627776):runsR none (ofL ps)=true/\∀ m,hasL (ofL ps) m=true↔m∈ps:=by
 unfold ofL
 refine YY ps hps (ps.length+1) 0 [] (by have:=JQ ps (0+1);omega) rfl fun m=>?_
 constructor
 ·intro h;simp[hasL]at h
 ·rintro⟨h,h'⟩;have:=hps m h;omega
theorem J7 {r:Int×Int}{ps:List Int}{x y n:Int}(h1:r.1∈ps)(h2:r.2+1∈ps)(hn:∀ z∈ps,x<z->y<=z)(hx:x<=n)(hy:n<y):inR r n=inR r x:=by
 rw[Bool.eq_iff_iff]
 simp only[inR,Bool.and_eq_true,decide_eq_true_eq]
 have a1:=hn _ h1
 have a2:=hn _ h2
 omega
theorem XO {l:List (Int×Int)}{ps:List Int}{x y n:Int}(hl:∀ r∈l,r.1∈ps/\r.2+1∈ps)(hn:∀ z∈ps,x<z->y<=z)(hx:x<=n)(hy:n<y):hasL l n=hasL l x:=by
 unfold hasL
 rw[Bool.eq_iff_iff,List.any_eq_true,List.any_eq_true]
 constructor
 ·rintro⟨r,hr,h⟩;exact⟨r,hr,by rw[←J7 (hl r hr).1 (hl r hr).2 hn hx hy];exact h⟩
 ·rintro⟨r,hr,h⟩;exact⟨r,hr,by rw[J7 (hl r hr).1 (hl r hr).2 hn hx hy];exact h⟩
theorem J8 {l:List (Int×Int)}{ps:List Int}{x n:Int}(hl:∀ r∈l,r.1∈ps/\r.2+1∈ps)(hn:∀ z∈ps,z<=x)(hx:x<=n):hasL l n=false:=by
 unfold hasL
 rw[List.any_eq_false]
 intro r hr
 have:=hn _ (hl r hr).2
 simp[inR];omega
theorem YZ {l:List (Int×Int)}{ps:List Int}{x n:Int}(hl:∀ r∈l,r.1∈ps/\r.2+1∈ps)(hn:∀ z∈ps,x<z)(hx:n<=x):hasL l n=false:=by
 unfold hasL
 rw[List.any_eq_false]
 intro r hr
 have:=hn _ (hl r hr).1
 simp[inR];omega
theorem Ya (a b:List (Int×Int))(how:Int)(ps:List Int)(ha:∀ r∈a,r.1∈ps/\r.2+1∈ps)(hb:∀ r∈b,r.1∈ps/\r.2+1∈ps)(hps:∀ x∈ps,1<=x/\x<=1099511627777) :
  ∀ (n:Nat) (x:Int) (out:List (Int×Int)),cnt ps x<n->x∈ps->runsR none out=true->(∀ m,hasL out m=true↔inn how (hasL a m) (hasL b m)=true/\m<x) ->
  runsR none (byGo a b how ps n (x,true) out)=true/\∀ m,hasL (byGo a b how ps n (x,true) out) m=inn how (hasL a m) (hasL b m)
 |0,x,out,hn,_,_,_=>by omega
 |n+1,x,out,hn,hx,hr,ho=>by
  rw[byGo,if_pos rfl]
  have hxb:=hps x hx
  have hl:=XM hr (x:=x-1) (fun m hm=>by have:=((ho m).1 hm).2;omega)
  cases hk:(nextL ps x).2 with
  |true=>
   obtain⟨h1,h2,h3⟩:=Xq hk
   have e:nextL ps x=((nextL ps x).1,true):=by rw[←hk]
   rw[e]
   generalize (nextL ps x).1=y at *
   dsimp only
   have hyb:=hps y h1
   have hc:=JP hx h2
   have sa:=fun m (h1:x<=m) (h2:m<y)=>XO ha h3 h1 h2
   have sb:=fun m (h1:x<=m) (h2:m<y)=>XO hb h3 h1 h2
   split
   ·rename_i hi
    obtain⟨k1,k2⟩:=XN (x:=x) (y:=y-1) hr ⟨by exact hxb.1,by show x<=y-1;omega,by show y-1<=_;omega⟩ (fun q hq=>by have:=hl q hq;omega) (byOut out x y) rfl
    refine Ya a b how ps ha hb hps n y (byOut out x y) (by omega) h1 k1 fun m=>?_
    rw[k2,Bool.or_eq_true,ho]
    simp only[inR,Bool.and_eq_true,decide_eq_true_eq]
    constructor
    ·rintro (h|h)
     ·exact⟨h.1,by omega⟩
     ·exact⟨by rw[sa m (by omega) (by omega),sb m (by omega) (by omega)];exact hi,by omega⟩
    ·rintro⟨hm,hlt⟩
     by_cases h:m<x
     ·exact .inl ⟨hm,h⟩
     ·exact .inr ⟨by omega,by omega⟩
   ·rename_i hi
    refine Ya a b how ps ha hb hps n y out (by omega) h1 hr fun m=>?_
    rw[ho]
    constructor
    ·rintro⟨h,h'⟩;exact⟨h,by omega⟩
    ·rintro⟨h,h'⟩
     refine⟨h,?_⟩
     rcases Int.lt_or_le m x with hlt|hle
     ·exact hlt
     ·rw[sa m hle h',sb m hle h']at h;exact absurd h hi
  |false=>
   have h3:=YA hk
   have e:nextL ps x=((nextL ps x).1,false):=by rw[←hk]
   have ea:=fun m (h:x<=m)=>J8 ha h3 h
   have eb:=fun m (h:x<=m)=>J8 hb h3 h
   have hi:inn how (hasL a x) (hasL b x)=false:=by rw[ea x (Int.le_refl _),eb x (Int.le_refl _)];simp[inn]
   dsimp only
   rw[hi,e,Z5,if_neg (by decide)]
   refine⟨hr,fun m=>?_⟩
   rw[Bool.eq_iff_iff,ho]
   constructor
   ·exact fun h=>h.1
   ·intro h
    refine⟨h,?_⟩
    rcases Int.lt_or_le m x with hlt|hle
    ·exact hlt
    ·rw[ea m hle,eb m hle]at h;simp[inn]at h
theorem ZQ {l:List (Int×Int)}{r:Int×Int}(h:r∈l):r.1∈endsL l/\r.2+1∈endsL l:=by
 unfold endsL
 exact⟨List.mem_flatMap.2 ⟨r,h,by simp⟩,List.mem_flatMap.2 ⟨r,h,by simp⟩⟩
theorem ZR {a b:List (Int×Int)}(how:Int)(ha:∀ r∈a,runOk r)(hb:∀ r∈b,runOk r):runsR none (byL a b how)=true/\∀ m,hasL (byL a b how) m=inn how (hasL a m) (hasL b m):=by
 have hps:∀ x∈endsL a++endsL b,1<=x/\x<=1099511627777:=fun x hx=>by
  have:∀ (l:List (Int×Int)),(∀ r∈l,runOk r)->x∈endsL l->1<=x/\x<=1099511627777:=fun l hl hx=>by
   obtain⟨r,hr,hx⟩:=List.mem_flatMap.1 hx
   have:=hl r hr
   unfold runOk at this
   simp at hx
   omega
  rcases List.mem_append.1 hx with h|h
  ·exact this a ha h
  ·exact this b hb h
 have ea:∀ r∈a,r.1∈endsL a++endsL b/\r.2+1∈endsL a++endsL b:=fun r hr=>⟨List.mem_append_left _ (ZQ hr).1,List.mem_append_left _ (ZQ hr).2⟩
 have eb:∀ r∈b,r.1∈endsL a++endsL b/\r.2+1∈endsL a++endsL b:=fun r hr=>⟨List.mem_append_right _ (ZQ hr).1,List.mem_append_right _ (ZQ hr).2⟩
 unfold byL
 generalize endsL a++endsL b=ps at *
 cases hk:(nextL ps 0).2 with
 |true=>
  obtain⟨h1,h2,h3⟩:=Xq hk
  have e:nextL ps 0=((nextL ps 0).1,true):=by rw[←hk]
  rw[e]
  generalize (nextL ps 0).1=x at *
  refine Ya a b how ps ea eb hps (ps.length+1) x [] (by have:=JQ ps x;omega) h1 rfl fun m=>?_
  constructor
  ·intro h;simp[hasL]at h
  ·rintro⟨h,hlt⟩
   exfalso
   have hq:∀ z∈ps,m<z:=fun z hz=>by have:=h3 z hz (by have:=hps z hz;omega);omega
   rw[YZ ea hq (Int.le_refl _),YZ eb hq (Int.le_refl _)]at h
   simp[inn]at h
 |false=>
  have h3:=YA hk
  have e:nextL ps 0=((nextL ps 0).1,false):=by rw[←hk]
  rw[e,Z5]
  have hn:ps=[]:=by
   cases ps with
   |nil=>rfl
   |cons z zs=>have:=h3 z (by simp);have:=hps z (by simp);omega
  subst hn
  have:∀ (l:List (Int×Int)),(∀ r∈l,r.1∈([]:List Int)/\r.2+1∈([]:List Int))->l=[]:=fun l hl=>by
   cases l with
   |nil=>rfl
   |cons z zs=>have:=(hl z (by simp)).1;simp at this
  rw[this a ea,this b eb]
  exact⟨rfl,fun m=>by simp[hasL,inn]⟩
theorem XU:∀ (es:List En) (p:Option Dt),entsB p es=true->∀ e∈es,e.right=true
 |[],_,_,_,h=>by cases h
 |e :: es,p,h,x,hx=>by
  rw[QR]at h
  simp only[Bool.and_eq_true]at h
  rcases List.mem_cons.1 hx with rfl|hx
  ·exact h.1.1
  ·exact XU es _ h.2 x hx
theorem Y3:∀ (ks:List Kd) (p:Option ByteArray) (deep:Int),Tr.rightL p ks deep=true->∀ k t,(k,t)∈ks->t.right (deep-1)=true
 |[],_,_,_,_,_,h=>by cases h
 |(k',t') :: ks,p,deep,h,k,t,hk=>by
  rw[QE]at h
  simp only[Bool.and_eq_true]at h
  rcases List.mem_cons.1 hk with e|hk
  ·cases e;exact h.1.2
  ·exact Y3 ks _ deep h.2 k t hk
theorem XV:∀ (ks:List Kd) (x:Dt),x∈Tr.dotsL ks->∃ k t,(k,t)∈ks/\x∈t.dots
 |[],x,h=>by rw[Tr.dotsL]at h;cases h
 |(k,t) :: ks,x,h=>by
  rw[Tr.dotsL]at h
  rcases List.mem_append.1 h with h|h
  ·exact⟨k,t,by simp,h⟩
  ·obtain⟨k',t',h1,h2⟩:=XV ks x h
   exact⟨k',t',by simp[h1],h2⟩
theorem Zs (t:Tr):∀ (deep:Int),t.right deep=true->∀ x∈t.dots,x.right=true:=by
 induction t using Tr.ind with
 |h es ks ih=>
  intro deep h x hx
  rw[Tr.right]at h
  simp only[Bool.and_eq_true]at h
  rw[Tr.dots]at hx
  rcases List.mem_append.1 hx with hx|hx
  ·obtain⟨e,he,rfl⟩:=List.mem_map.1 hx
   have:=XU es none h.1.2 e he
   simp[En.right]at this
   exact this.1
  ·obtain⟨k,t,hk,hx⟩:=XV ks x hx
   exact ih k t hk (deep-1) (Y3 ks none deep h.2 k t hk) x hx
theorem KC {t:Tr}{deep:Int}(h:t.right deep=true):∀ d∈t.dots,0<=d.n/\d.n<=1099511627778:=fun d hd=>by
 have:=Zs t deep h d hd
 simp[Dt.right]at this
 omega
theorem qQv (l:List ByteArray)(s:ByteArray)(v:Value)(w:World)(h:SlP w w.heap.size 1 StE v l) :
  Calls Tryz.prog 42 #[v,.string s] w fun e w'=>e=.returned (.bool (l.any fun x=>decide (x=s)))/\Below w.heap.size w w':=by
 obtain⟨A,n,rfl,b1,b2,b3⟩:=h
 unfold Big at b2
 go_enter Tryz.func42,Tryz.ntmps42
 go_wp2_with fail
 go_loopw [8] (fun i wr=>∃ k:Nat,k<=l.length/\i=.int .i64 k/\Hid (((l.take k).any fun x=>decide (x=s))=false)/\Below w.heap.size w wr) (fun i _=>l.length-(intOf i).toNat)
 case atStart=>exact⟨0,Nat.zero_le _,rfl,rfl,Below.refl _ _⟩
 case round=>
  obtain⟨k,hk,rfl,hall,hb⟩:=hrel
  by_cases hlt:k<l.length
  ·obtain⟨x,hx⟩:∃ x,l[k]?=some x:=⟨_,List.getElem?_eq_getElem hlt⟩
   obtain⟨b,off,rfl,hbB,hc⟩:=b3 (by rintro rfl;simp at hlt)
   obtain⟨cs,⟨rfl,hok⟩,_,hu⟩:=hc k _ hx
   have e0:wr.cell? ⟨b,off+k,none⟩=some (.string x):=(hb.cell hbB).trans (by simpa using hu 0 _ rfl)
   have HM:Hid (x∈l):=List.mem_of_getElem? hx
   have HT:Hid (((l.take (k+1)).any fun x=>decide (x=s))=decide (x=s)):=by
    unfold Hid;rw[List.take_add_one,hx,List.any_append,hall.out];simp
   clear hu hc b3 hx
   by_cases he:x=s
   ·have hq:(x.toList==s.toList)=true:=by rw[he];simp
    have HR:Hid ((l.any fun x=>decide (x=s))=true):=by unfold Hid;rw[List.any_eq_true];exact⟨x,HM.out,by simp[he]⟩
    clear he
    go_wp2_with fail
    go_ret
    exact⟨Qe HR.out.symm,hb⟩
   ·have hq:(x.toList==s.toList)=false:=by simp[QD];exact he
    have HT2:Hid (((l.take (k+1)).any fun x=>decide (x=s))=false):=by unfold Hid;rw[HT.out,decide_eq_false he]
    clear he
    go_wp2_with fail
    go_roundw
    case rel=>exact⟨k+1,by omega,by go_num,HT2,hb⟩
    case measure=>simp[intOf];omega
  ·have hke:k=l.length:=by omega
   subst hke
   have HR:Hid ((l.any fun x=>decide (x=s))=false):=by have:=hall.out;rwa [List.take_of_length_le (Nat.le_refl _)]at this
   go_wp2_with fail
   go_ret
   exact⟨Qe HR.out.symm,hb⟩
def inF (keys:List ByteArray)(x:Lf):Bool:=match x.1 with|[]=>false|q :: _=>keys.any fun z=>decide (z=q)
theorem Jc {f:Lf->Bool}{l:List Lf}{k:Nat}{x:Lf}(h:l[k]?=some x):(l.take (k+1)).filter f=(l.take k).filter f++(if f x then [x] else []):=by
 rw[List.take_add_one,h,List.filter_append]
 cases hx:f x<;>simp[hx]
def RetOn (w:World)(x y:Tr)(e:Ending)(w':World):Prop:=
 ∃ a b c d,e=.returned (.tuple #[.agg #[a,b],.agg #[c,d]])/\x.rda w' (fun b=>w.heap.size<=b/\b<w'.heap.size) a b/\y.rda w' (fun b=>w.heap.size<=b/\b<w'.heap.size) c d/\Below w.heap.size w w'
theorem JE {X w13:World}{B:Nat}{va vb v1:Value}{LB:List Lf}(hb:OwnD X B 91 5 LfA (fun b=>b<B) vb LB)(hg:X.grownBy w13 va.ownBlock)(hor:v1.ownBlock=va.ownBlock∨v1.ownBlock=some X.heap.size)(hne:∀ q,va.ownBlock=some q->vb.ownBlock≠some q)(hva:∀ q,va.ownBlock=some q->B<=q) :
  OwnD w13 B 91 5 LfA (fun b=>b<B) vb LB/\(∀ q,v1.ownBlock=some q->vb.ownBlock≠some q):=by
 refine⟨?_,fun q hq=>?_⟩
 ·have h1:=OwnP.keep (w':=w13) hb fun q hq=>hg.block q (OwnD.lt hb q hq).2 (fun e=>hne q e.symm hq)
  exact h1.imp fun x _ cs hx=>LfA.mon.up (fun b hb'=>hg.block b hb'.2.1 (fun e=>by have:=hva b e.symm;have:=hb'.1;omega)) (fun b hb'=>⟨hb'.1,Nat.lt_of_lt_of_le hb'.2.1 hg.size,hb'.2.2⟩) hx
 ·rcases hor with e|e
  ·exact hne q (e▸hq)
  ·rw[e]at hq;cases hq
   exact fun h=>absurd (OwnD.lt hb _ h).2 (Nat.lt_irrefl _)
theorem JF (t:Tr)(keys:List ByteArray)(ve vk vl:Value)(w:World)(h:t.rd w w.heap.size ve vk)(hk:SlP w w.heap.size 1 StE vl keys)(hN:t.sz<=2000)(hlv:(t.lvs []).length<=900000) :
  Calls Tryz.prog 13 #[.agg #[ve,vk],vl] w (RetOn w (Qp ((t.lvs []).filter (inF keys))) (Qp ((t.lvs []).filter fun x=>!inF keys x))):=by
 have HC:Hid (∀ w',Below w.heap.size w w'->t.rd w' w'.heap.size ve vk):=fun w' hb=>Qj hb hb.size _ _ _ h
 have HK:Hid (∀ w',Below w.heap.size w w'->SlP w' w'.heap.size 1 StE vl keys):=fun w' hb=>hk.imp hb hb.size fun _ _ _ h=>h
 obtain⟨A3,n3,A4,n4,rfl,rfl⟩:=Ql h
 obtain⟨Al,nl,rfl,_⟩:=hk
 have hb0:Below w.heap.size w (((w.alloc (.cells #[.slice A3 t.es.length n3,.slice A4 t.ks.length n4] 25)).alloc (.cells #[.slice none 0 0,.slice none 0 0] 25)).alloc (.cells #[.slice none 0 0,.slice none 0 0] 25)):=(((Below.refl _ w).alloc (Nat.le_refl _) _).alloc (by simp) _).alloc (by simp;omega) _
 have HB0:=hid hb0
 have HX:Hid (∀ W,Below (w.heap.size+3) (((w.alloc (.cells #[.slice A3 t.es.length n3,.slice A4 t.ks.length n4] 25)).alloc (.cells #[.slice none 0 0,.slice none 0 0] 25)).alloc (.cells #[.slice none 0 0,.slice none 0 0] 25)) W->(Below w.heap.size w W/\w.heap.size+3<=W.heap.size/\W.heap[w.heap.size+1]?=some (.cells #[.slice none 0 0,.slice none 0 0] 25 (0,0))/\W.heap[w.heap.size+2]?=some (.cells #[.slice none 0 0,.slice none 0 0] 25 (0,0))/\W.cell? ⟨w.heap.size,0,none⟩=some (.slice A3 t.es.length n3)/\W.cell? ⟨w.heap.size,1,none⟩=some (.slice A4 t.ks.length n4))):=fun W hW=>by
  have g0:W.heap[w.heap.size]?=some (.cells #[.slice A3 t.es.length n3,.slice A4 t.ks.length n4] 25 (0,0)):=(hW.block _ (by omega)).trans ((Qh (by simp;omega)).trans ((Qh (by simp)).trans (Qg rfl)))
  exact⟨HB0.out.trans (hW.mono (by omega)),by have:=hW.size;simpa using this,(hW.block _ (by omega)).trans ((Qh (by simp)).trans (Qg (by simp))),(hW.block _ (by omega)).trans (Qg (by simp)),Qa (i:=0) g0,Qa (i:=1) g0⟩
 clear h hb0
 have hn1:w.heap.size+1≠w.heap.size:=by omega
 have hn2:w.heap.size+2≠w.heap.size:=by omega
 obtain⟨l,HL⟩:∃ l,Hid (t.lvs []=l):=⟨_,rfl⟩
 rw[HL.out]at hlv ⊢
 go_enter Tryz.func13,Tryz.ntmps13
 obtain⟨hB,hs0,_,_,c0,c1⟩:=HX.out _ (Below.refl _ _)
 go_wp2_with fail
 refine (ZL t _ _ _ (HC.out _ hB) (by omega)).mono ?_
 rw[HL.out]
 rintro e w1 ⟨v1,rfl,ho1,hb1⟩
 have HB1:=hid (hb1.mono (show w.heap.size+3<=_ by simp))
 have hsl:=OwnD.sl ho1 LfA.mon (by unfold Big;omega)
 obtain⟨A1,m1,hv1,l1,l2,l3⟩:=hsl
 subst hv1
 unfold Big at l2
 have HL3:=hid l3
 clear ho1 hb1 c0 c1 hB
 obtain⟨hBw,hs1,_⟩:=HX.out _ HB1.out
 have HBW:=hid hBw
 clear hBw l3
 go_wp2_with fail
 go_loopw [6,7,14] (fun va vb i wr=>∃ k:Nat,k<=l.length/\i=.int .i64 k/\OwnD wr w1.heap.size 91 5 LfA (fun b=>b<w1.heap.size) va ((l.take k).filter (inF keys))/\OwnD wr w1.heap.size 91 5 LfA (fun b=>b<w1.heap.size) vb ((l.take k).filter fun x=>!inF keys x)/\(∀ q,va.ownBlock=some q->vb.ownBlock≠some q)/\Below w1.heap.size w1 wr) (fun _ _ i _=>l.length-(intOf i).toNat)
 case atStart=>exact⟨0,Nat.zero_le _,rfl,OwnD.nil,OwnD.nil,fun q hq=>by simp[Value.ownBlock]at hq,Below.refl _ _⟩
 case round=>
  obtain⟨k,hk,rfl,ha,hb,hne,hbr⟩:=hrel
  have HA:=hid ha
  have HBb:=hid hb
  have HBR:=hid hbr
  have hsr:=hbr.size
  obtain⟨Aa,na,hva⟩:=OwnP.shape ha
  subst hva
  obtain⟨Ab,nb,hvb⟩:=OwnP.shape hb
  subst hvb
  have hla:((l.take k).filter (inF keys)).length<=l.length:=Nat.le_trans (List.length_filter_le _ _) (by simp;omega)
  have hlb:((l.take k).filter fun x=>!inF keys x).length<=l.length:=Nat.le_trans (List.length_filter_le _ _) (by simp;omega)
  have HNE:=hid hne
  obtain⟨LA,HLA⟩:∃ q,Hid ((l.take k).filter (inF keys)=q):=⟨_,rfl⟩
  obtain⟨LB,HLB⟩:∃ q,Hid ((l.take k).filter (fun x=>!inF keys x)=q):=⟨_,rfl⟩
  rw[HLA.out]at hla HA HNE ⊢
  rw[HLB.out]at hlb HBb HNE ⊢
  clear ha hb hne hbr
  by_cases hlt:k<l.length
  ·have hki:(k:Int)<(l.length:Int):=by omega
   obtain⟨⟨p,x⟩,hx⟩:∃ x,l[k]?=some x:=⟨_,List.getElem?_eq_getElem hlt⟩
   obtain⟨b,off,rfl,hbB,hc⟩:=HL3.out (by rintro rfl;simp at hlt)
   obtain⟨cs,⟨A7,c7,rfl,hp,hok⟩,_,hu⟩:=hc k _ hx
   have e0:wr.cell? ⟨b,off+k*5,none⟩=some (.slice A7 p.length c7):=(HBR.out.cell hbB).trans (hu 0 _ rfl)
   have e1:wr.cell? ⟨b,off+k*5+1,none⟩=some (.int .i64 x.dc):=(HBR.out.cell hbB).trans (hu 1 _ rfl)
   have e2:wr.cell? ⟨b,off+k*5+2,none⟩=some (.int .i64 x.n):=(HBR.out.cell hbB).trans (hu 2 _ rfl)
   have e3:wr.cell? ⟨b,off+k*5+3,none⟩=some (.string x.s):=(HBR.out.cell hbB).trans (hu 3 _ rfl)
   have e4:wr.cell? ⟨b,off+k*5+4,none⟩=some (.int .i64 x.v):=(HBR.out.cell hbB).trans (hu 4 _ rfl)
   have HT1:=hid (Jc (f:=inF keys) hx)
   have HT2:=hid (Jc (f:=fun x=>!inF keys x) hx)
   rw[HLA.out]at HT1
   rw[HLB.out]at HT2
   have HPP:=hid hp
   have HOK:=hid hok
   have HE:=hid (fun (W:World) (hW:Below w1.heap.size w1 W)=>(show (W.cell? ⟨b,off+k*5,none⟩=some (.slice A7 p.length c7)/\W.cell? ⟨b,off+k*5+1,none⟩=some (.int .i64 x.dc)/\W.cell? ⟨b,off+k*5+2,none⟩=some (.int .i64 x.n)/\W.cell? ⟨b,off+k*5+3,none⟩=some (.string x.s)/\W.cell? ⟨b,off+k*5+4,none⟩=some (.int .i64 x.v)) from ⟨(hW.cell hbB).trans (hu 0 _ rfl),(hW.cell hbB).trans (hu 1 _ rfl),(hW.cell hbB).trans (hu 2 _ rfl),(hW.cell hbB).trans (hu 3 _ rfl),(hW.cell hbB).trans (hu 4 _ rfl)⟩))
   clear hc hu hx hp hok
   by_cases hp0:p=[]
   ·have HF1:Hid ((l.take (k+1)).filter (inF keys)=LA):=by unfold Hid;rw[HT1.out,hp0];simp[inF]
    have HF2:Hid ((l.take (k+1)).filter (fun x=>!inF keys x)=LB++[(p,x)]):=by unfold Hid;rw[HT2.out,hp0];simp[inF]
    have hz:¬(0:Int)<(p.length:Int):=by rw[hp0];simp
    have hz1:decide ((0:Int)<(p.length:Int))=false:=decide_eq_false hz
    have hz2:¬0<p.length:=by omega
    have hz3:decide (0<p.length)=false:=decide_eq_false hz2
    clear hp0
    have hbS:Below wr.heap.size wr (wr.alloc (.cells #[.slice A7 p.length c7,.int .i64 x.dc,.int .i64 x.n,.string x.s,.int .i64 x.v] 91)):=(Below.refl _ _).alloc (Nat.le_refl _) _
    have HBS:=hid hbS
    have HBX1:Hid (Below w1.heap.size w1 (wr.alloc (.cells #[.slice A7 p.length c7,.int .i64 x.dc,.int .i64 x.n,.string x.s,.int .i64 x.v] 91))):=hid ((HBR.out).trans (hbS.mono (HBR.out).size))
    have HXE:Hid (LfA (wr.alloc (.cells #[.slice A7 p.length c7,.int .i64 x.dc,.int .i64 x.n,.string x.s,.int .i64 x.v] 91)) (fun b=>b<w1.heap.size/\b<(wr.alloc (.cells #[.slice A7 p.length c7,.int .i64 x.dc,.int .i64 x.n,.string x.s,.int .i64 x.v] 91)).heap.size/\((Value.slice Ab LB.length nb)).ownBlock≠some b) (p,x) [.slice A7 p.length c7,.int .i64 x.dc,.int .i64 x.n,.string x.s,.int .i64 x.v]):=
     ⟨A7,c7,rfl,HPP.out.up (fun b hb=>HBX1.out.block b hb.2) (fun b hb=>⟨hb.2,Nat.lt_of_lt_of_le hb.2 HBX1.out.size,fun e=>by have:=(OwnD.lt HBb.out b e).1;have:=hb.2;omega⟩) (fun _ _ _ h=>h),HOK.out⟩
    have HLF:Hid ((LB).length + [((p,x):Lf)].length<=Few):=by unfold Hid Few;simp;omega
    have hXs:=(HBR.out).size
    clear hbS
    go_upto_region 9 with (at_builtin;go_loud ((refine Zn (v:=(Value.slice Ab LB.length nb)) rfl (.tmp 42) (.tmp 47) _ rfl LfA.mon Ym (by decide) (by decide) rfl ((HBb.out.grow LfA.mon (Below.refl _ _)).grow LfA.mon HBS.out) rfl (SlP.oneB (x:=((p,x):Lf)) (cs:=[.slice A7 p.length c7,.int .i64 x.dc,.int .i64 x.n,.string x.s,.int .i64 x.v]) HXE.out rfl _ rfl (by simp)) HLF.out (by simp;omega) ?_);intro v1 w13 hown13 hb13 hg13 hor13))
    have HTW:=hid (JE (va:=(Value.slice Ab LB.length nb)) ((HA.out.grow LfA.mon (Below.refl _ _)).grow LfA.mon HBS.out) hg13 hor13 (fun q hq e=>HNE.out q e hq) (fun q hq=>(OwnD.lt HBb.out q hq).1))
    have HOW:=hid hown13
    have HB13:=hid (HBX1.out.trans hb13)
    clear hown13 hb13 hg13 hor13
    go_wp2_with fail
    go_roundw
    case rel=>exact⟨k+1,by omega,by go_num,by rw[HF1.out];exact HTW.out.1,by rw[HF2.out];exact HOW.out,fun q hq e=>HTW.out.2 q e hq,HB13.out⟩
    case measure=>simp[intOf];omega
   ·have hz2:0<p.length:=List.length_pos_iff.2 hp0
    have hz:(0:Int)<(p.length:Int):=by omega
    have hz1:decide ((0:Int)<(p.length:Int))=true:=decide_eq_true hz
    have hz3:decide (0<p.length)=true:=decide_eq_true hz2
    obtain⟨q,hq⟩:∃ q,p[0]?=some q:=⟨_,List.getElem?_eq_getElem hz2⟩
    obtain⟨A7',c7',hv7,m1,m2,m3⟩:=HPP.out
    simp only[Value.slice.injEq]at hv7
    obtain⟨rfl,_,rfl⟩:=hv7
    obtain⟨b7,o7,hA7,hb7,hc7⟩:=m3 hp0
    subst hA7
    obtain⟨cs7,⟨rfl,hq7⟩,_,hu7⟩:=hc7 0 q hq
    have e7:wr.cell? ⟨b7,o7,none⟩=some (.string q):=(HBR.out.cell (p:=⟨b7,o7,none⟩) hb7.2).trans (by simpa using hu7 0 _ rfl)
    obtain⟨KQ,HKQ⟩:∃ z,Hid ((keys.any fun z=>decide (z=q))=z):=⟨_,rfl⟩
    have hin:inF keys (p,x)=KQ:=by
     obtain⟨p0,ps,rfl⟩:=List.exists_cons_of_ne_nil hp0
     simp at hq;subst hq
     exact HKQ.out
    have HIN:=hid hin
    have HKW:=hid (HK.out _ ((HX.out _ (HB1.out.trans (HBR.out.mono (by omega)))).1))
    clear m3 hc7 hu7 hp0 hq hin
    go_wp2_with fail
    refine (qQv keys q _ _ HKW.out).mono ?_
    rw[HKQ.out]
    rintro e w2 ⟨rfl,hb2⟩
    have HB2:=hid hb2
    have HBX2:=hid (HBR.out.trans (hb2.mono hsr))
    clear e0 e1 e2 e3 e4 e7 hb2
    obtain⟨e0,e1,e2,e3,e4⟩:=HE.out w2 HBX2.out
    cases KQ
    ·have HF1:Hid ((l.take (k+1)).filter (inF keys)=LA):=by unfold Hid;rw[HT1.out,HIN.out];simp
     have HF2:Hid ((l.take (k+1)).filter (fun x=>!inF keys x)=LB++[(p,x)]):=by unfold Hid;rw[HT2.out];simp[HIN.out]
     have hbS:Below w2.heap.size w2 (w2.alloc (.cells #[.slice (some ⟨b7,o7,none⟩) p.length c7,.int .i64 x.dc,.int .i64 x.n,.string x.s,.int .i64 x.v] 91)):=(Below.refl _ _).alloc (Nat.le_refl _) _
     have HBS:=hid hbS
     have HBX1:Hid (Below w1.heap.size w1 (w2.alloc (.cells #[.slice (some ⟨b7,o7,none⟩) p.length c7,.int .i64 x.dc,.int .i64 x.n,.string x.s,.int .i64 x.v] 91))):=hid ((HBX2.out).trans (hbS.mono (HBX2.out).size))
     have HXE:Hid (LfA (w2.alloc (.cells #[.slice (some ⟨b7,o7,none⟩) p.length c7,.int .i64 x.dc,.int .i64 x.n,.string x.s,.int .i64 x.v] 91)) (fun b=>b<w1.heap.size/\b<(w2.alloc (.cells #[.slice (some ⟨b7,o7,none⟩) p.length c7,.int .i64 x.dc,.int .i64 x.n,.string x.s,.int .i64 x.v] 91)).heap.size/\((Value.slice Ab LB.length nb)).ownBlock≠some b) (p,x) [.slice (some ⟨b7,o7,none⟩) p.length c7,.int .i64 x.dc,.int .i64 x.n,.string x.s,.int .i64 x.v]):=
      ⟨(some ⟨b7,o7,none⟩),c7,rfl,HPP.out.up (fun b hb=>HBX1.out.block b hb.2) (fun b hb=>⟨hb.2,Nat.lt_of_lt_of_le hb.2 HBX1.out.size,fun e=>by have:=(OwnD.lt HBb.out b e).1;have:=hb.2;omega⟩) (fun _ _ _ h=>h),HOK.out⟩
     have HLF:Hid ((LB).length + [((p,x):Lf)].length<=Few):=by unfold Hid Few;simp;omega
     have hXs:=(HBX2.out).size
     clear hbS
     go_upto_region 9 with (at_builtin;go_loud ((refine Zn (v:=(Value.slice Ab LB.length nb)) rfl (.tmp 42) (.tmp 47) _ rfl LfA.mon Ym (by decide) (by decide) rfl ((HBb.out.grow LfA.mon (HB2.out)).grow LfA.mon HBS.out) rfl (SlP.oneB (x:=((p,x):Lf)) (cs:=[.slice (some ⟨b7,o7,none⟩) p.length c7,.int .i64 x.dc,.int .i64 x.n,.string x.s,.int .i64 x.v]) HXE.out rfl _ rfl (by simp)) HLF.out (by simp;omega) ?_);intro v1 w13 hown13 hb13 hg13 hor13))
     have HTW:=hid (JE (va:=(Value.slice Ab LB.length nb)) ((HA.out.grow LfA.mon (HB2.out)).grow LfA.mon HBS.out) hg13 hor13 (fun q hq e=>HNE.out q e hq) (fun q hq=>(OwnD.lt HBb.out q hq).1))
     have HOW:=hid hown13
     have HB13:=hid (HBX1.out.trans hb13)
     clear hown13 hb13 hg13 hor13
     go_wp2_with fail
     go_roundw
     case rel=>exact⟨k+1,by omega,by go_num,by rw[HF1.out];exact HTW.out.1,by rw[HF2.out];exact HOW.out,fun q hq e=>HTW.out.2 q e hq,HB13.out⟩
     case measure=>simp[intOf];omega
    ·have HF1:Hid ((l.take (k+1)).filter (inF keys)=LA++[(p,x)]):=by unfold Hid;rw[HT1.out,HIN.out];simp
     have HF2:Hid ((l.take (k+1)).filter (fun x=>!inF keys x)=LB):=by unfold Hid;rw[HT2.out];simp[HIN.out]
     have hbS:Below w2.heap.size w2 (w2.alloc (.cells #[.slice (some ⟨b7,o7,none⟩) p.length c7,.int .i64 x.dc,.int .i64 x.n,.string x.s,.int .i64 x.v] 91)):=(Below.refl _ _).alloc (Nat.le_refl _) _
     have HBS:=hid hbS
     have HBX1:Hid (Below w1.heap.size w1 (w2.alloc (.cells #[.slice (some ⟨b7,o7,none⟩) p.length c7,.int .i64 x.dc,.int .i64 x.n,.string x.s,.int .i64 x.v] 91))):=hid ((HBX2.out).trans (hbS.mono (HBX2.out).size))
     have HXE:Hid (LfA (w2.alloc (.cells #[.slice (some ⟨b7,o7,none⟩) p.length c7,.int .i64 x.dc,.int .i64 x.n,.string x.s,.int .i64 x.v] 91)) (fun b=>b<w1.heap.size/\b<(w2.alloc (.cells #[.slice (some ⟨b7,o7,none⟩) p.length c7,.int .i64 x.dc,.int .i64 x.n,.string x.s,.int .i64 x.v] 91)).heap.size/\((Value.slice Aa LA.length na)).ownBlock≠some b) (p,x) [.slice (some ⟨b7,o7,none⟩) p.length c7,.int .i64 x.dc,.int .i64 x.n,.string x.s,.int .i64 x.v]):=
      ⟨(some ⟨b7,o7,none⟩),c7,rfl,HPP.out.up (fun b hb=>HBX1.out.block b hb.2) (fun b hb=>⟨hb.2,Nat.lt_of_lt_of_le hb.2 HBX1.out.size,fun e=>by have:=(OwnD.lt HA.out b e).1;have:=hb.2;omega⟩) (fun _ _ _ h=>h),HOK.out⟩
     have HLF:Hid ((LA).length + [((p,x):Lf)].length<=Few):=by unfold Hid Few;simp;omega
     have hXs:=(HBX2.out).size
     clear hbS
     go_upto_region 9 with (at_builtin;go_loud ((refine Zn (v:=(Value.slice Aa LA.length na)) rfl (.tmp 35) (.tmp 40) _ rfl LfA.mon Ym (by decide) (by decide) rfl ((HA.out.grow LfA.mon (HB2.out)).grow LfA.mon HBS.out) rfl (SlP.oneB (x:=((p,x):Lf)) (cs:=[.slice (some ⟨b7,o7,none⟩) p.length c7,.int .i64 x.dc,.int .i64 x.n,.string x.s,.int .i64 x.v]) HXE.out rfl _ rfl (by simp)) HLF.out (by simp;omega) ?_);intro v1 w13 hown13 hb13 hg13 hor13))
     have HTW:=hid (JE (va:=(Value.slice Aa LA.length na)) ((HBb.out.grow LfA.mon (HB2.out)).grow LfA.mon HBS.out) hg13 hor13 HNE.out (fun q hq=>(OwnD.lt HA.out q hq).1))
     have HOW:=hid hown13
     have HB13:=hid (HBX1.out.trans hb13)
     clear hown13 hb13 hg13 hor13
     go_wp2_with fail
     go_roundw
     case rel=>exact⟨k+1,by omega,by go_num,by rw[HF1.out];exact HOW.out,by rw[HF2.out];exact HTW.out.1,HTW.out.2,HB13.out⟩
     case measure=>simp[intOf];omega
  ·have hki:¬(k:Int)<(l.length:Int):=by omega
   have HLA2:Hid (l.filter (inF keys)=LA):=by have h:=HLA.out;rw[List.take_of_length_le (by omega)]at h;exact h
   have HLB2:Hid (l.filter (fun x=>!inF keys x)=LB):=by have h:=HLB.out;rw[List.take_of_length_le (by omega)]at h;exact h
   have hSA:SlP wr wr.heap.size 5 (LfA wr (fun b=>b<wr.heap.size)) (.slice Aa LA.length na) LA:=(OwnD.sl HA.out LfA.mon (by unfold Big;omega)).imp (Below.refl _ _) (Nat.le_refl _) fun _ _ _ hx=>LfA.mon.up (fun _ _=>rfl) (fun b hb=>hb.2) hx
   have HSB:=hid (fun (W:World) (hW:Below wr.heap.size wr W)=>(show SlP W W.heap.size 5 (LfA W (fun b=>b<W.heap.size)) (.slice Ab LB.length nb) LB from (OwnD.sl (HBb.out.grow LfA.mon hW) LfA.mon (by unfold Big;omega)).imp (Below.refl _ _) (Nat.le_refl _) fun _ _ _ hx=>LfA.mon.up (fun _ _=>rfl) (fun b hb=>hb.2) hx))
   have HSA:=hid hSA
   have HBwr:=hid (HB1.out.trans (HBR.out.mono (by omega)))
   clear hSA
   go_wp2_with fail
   refine (ZM LA _ _ HSA.out (by omega)).mono ?_
   rintro e w2 ⟨ve2,vk2,rfl,hr2,hb2⟩
   obtain⟨A8,n8,B8,m8,e1,e2⟩:=Qt hr2
   subst e1;subst e2
   have HB2:=hid hb2
   have HR2:=hid hr2
   clear hb2 hr2
   go_wp2_with fail
   refine (ZM LB _ _ (HSB.out _ HB2.out) (by omega)).mono ?_
   rintro e w3 ⟨ve3,vk3,rfl,hr3,hb3⟩
   obtain⟨A9,n9,B9,m9,e1,e2⟩:=Qt hr3
   subst e1;subst e2
   have HB3:=hid hb3
   have HR3:=hid hr3
   have hs2:=HB2.out.size
   have hs3:=HB3.out.size
   obtain⟨hBW,hsW,hg1,hg2,_⟩:=HX.out w3 (HBwr.out.trans ((HB2.out.trans (HB3.out.mono hs2)).mono (by omega)))
   have HG1:=hid hg1
   have HG2:=hid hg2
   have HBWW:=hid hBW
   have k0:=Qa (i:=0) hg1
   have k1:=Qa (i:=1) hg1
   have y0:=Qa (i:=0) hg2
   have y1:=Qa (i:=1) hg2
   simp only[List.getElem?_toArray,List.getElem?_cons_zero,List.getElem?_cons_succ]at k0 k1 y0 y1
   have z0:=Qc (i:=0) hg1
   have z1:=Qc (i:=1) hg1
   have x0:=Qc (i:=0) hg2
   have x1:=Qc (i:=1) hg2
   have hne1:w.heap.size+1≠w.heap.size+2:=by omega
   have hne2:w.heap.size+2≠w.heap.size+1:=by omega
   have hl1:w.heap.size+1<w3.heap.size:=by omega
   have hl2:w.heap.size+2<w3.heap.size:=by omega
   clear hg1 hg2 hBW hr3 hb3
   go_wp2_with fail
   have hW1:=Qd (i:=1) (Qd (i:=0) HG1.out (.slice A8 (Qp LA).es.length n8)) (.slice B8 (Qp LA).ks.length m8)
   have hK1:∀ b,b≠w.heap.size+1->((w3.setCell ⟨w.heap.size+1,0,none⟩ (.slice A8 (Qp LA).es.length n8)).setCell ⟨w.heap.size+1,1,none⟩ (.slice B8 (Qp LA).ks.length m8)).heap[b]?=w3.heap[b]?:=fun b hb=>(Below.heap_setCell _ _ _ _ hb).trans (Below.heap_setCell _ _ _ _ hb)
   have hg2':=(hK1 (w.heap.size+2) (by omega)).trans HG2.out
   have hW2:=Qd (i:=1) (Qd (i:=0) hg2' (.slice A9 (Qp LB).es.length n9)) (.slice B9 (Qp LB).ks.length m9)
   have hK2:∀ b,b≠w.heap.size+1->b≠w.heap.size+2->((((w3.setCell ⟨w.heap.size+1,0,none⟩ (.slice A8 (Qp LA).es.length n8)).setCell ⟨w.heap.size+1,1,none⟩ (.slice B8 (Qp LA).ks.length m8)).setCell ⟨w.heap.size+2,0,none⟩ (.slice A9 (Qp LB).es.length n9)).setCell ⟨w.heap.size+2,1,none⟩ (.slice B9 (Qp LB).ks.length m9)).heap[b]?=w3.heap[b]?:=fun b hb hb'=>(Below.heap_setCell _ _ _ _ hb').trans ((Below.heap_setCell _ _ _ _ hb').trans (hK1 b hb))
   have hS2:((((w3.setCell ⟨w.heap.size+1,0,none⟩ (.slice A8 (Qp LA).es.length n8)).setCell ⟨w.heap.size+1,1,none⟩ (.slice B8 (Qp LA).ks.length m8)).setCell ⟨w.heap.size+2,0,none⟩ (.slice A9 (Qp LB).es.length n9)).setCell ⟨w.heap.size+2,1,none⟩ (.slice B9 (Qp LB).ks.length m9)).heap.size=w3.heap.size:=by simp[World.setCell]
   have hgA:=(Below.heap_setCell (((w3.setCell ⟨w.heap.size+1,0,none⟩ (.slice A8 (Qp LA).es.length n8)).setCell ⟨w.heap.size+1,1,none⟩ (.slice B8 (Qp LA).ks.length m8)).setCell ⟨w.heap.size+2,0,none⟩ (.slice A9 (Qp LB).es.length n9)) ⟨w.heap.size+2,1,none⟩ (.slice B9 (Qp LB).ks.length m9) (w.heap.size+1) (by simp)).trans ((Below.heap_setCell ((w3.setCell ⟨w.heap.size+1,0,none⟩ (.slice A8 (Qp LA).es.length n8)).setCell ⟨w.heap.size+1,1,none⟩ (.slice B8 (Qp LA).ks.length m8)) ⟨w.heap.size+2,0,none⟩ (.slice A9 (Qp LB).es.length n9) (w.heap.size+1) (by simp)).trans hW1)
   have r0:=Qa (i:=0) hgA
   have r1:=Qa (i:=1) hgA
   have r2:=Qa (i:=0) hW2
   have r3:=Qa (i:=1) hW2
   simp at r0 r1 r2 r3
   refine bodyPost_ret (v:=.tuple #[.agg #[.slice A8 (Qp LA).es.length n8,.slice B8 (Qp LA).ks.length m8],.agg #[.slice A9 (Qp LB).es.length n9,.slice B9 (Qp LB).ks.length m9]]) (by simp[results,Tryz.results13,go_sem,r0,r1,r2,r3]<;>rfl) rfl ⟨.slice A8 (Qp LA).es.length n8,.slice B8 (Qp LA).ks.length m8,.slice A9 (Qp LB).es.length n9,.slice B9 (Qp LB).ks.length m9,rfl,?_,?_,(((HBWW.out.setCell (p:=⟨w.heap.size+1,0,none⟩) (by simp) _).setCell (p:=⟨w.heap.size+1,1,none⟩) (by simp) _).setCell (p:=⟨w.heap.size+2,0,none⟩) (by simp) _).setCell (p:=⟨w.heap.size+2,1,none⟩) (by simp) _⟩
   ·rw[HLA2.out]
    exact Zi (fun b hb=>(hK2 b (by have:=hb.1;omega) (by have:=hb.1;omega)).trans (HB3.out.block b hb.2)) (fun b hb=>⟨by have:=hb.1;omega,by rw[hS2];have:=hb.2;omega⟩) _ _ _ HR2.out
   ·rw[HLB2.out]
    exact Zi (fun b hb=>hK2 b (by have:=hb.1;omega) (by have:=hb.1;omega)) (fun b hb=>⟨by have:=hb.1;omega,by rw[hS2];exact hb.2⟩) _ _ _ HR3.out
def RetG (w:World)(e:Ending)(w':World):Prop:=∃ v,e=.returned v/\OwnP w' w.heap.size 167 2 RuE v []/\Below w.heap.size w w'
theorem qQi (n:Nat)(w:World)(hn:n<=900000):Calls Tryz.prog 208 #[.slice none 0 0,.int .i64 n] w (RetG w):=by
 rcases Nat.eq_zero_or_pos n with rfl|hp
 ·go_enter Tryz.func208,Tryz.ntmps208
  go_wp2_with fail
  go_ret
  exact⟨_,rfl,OwnP.nil,Below.refl _ _⟩
 ·have ht:=Tryz.underlying160
  obtain⟨i,hi,hz,hs,hby⟩:=info_parts (show (Tryz.prog.info? 167).map (fun i=>(i.zero,i.size,i.bytes))=some (some (.agg #[.int .i64 0,.int .i64 0]),2,16) by kernel_rfl)
  have hold:(Builtin.firstCells i.size 0 (.slice none 0 0)).run Tryz.prog w.drew=.ok (#[]:Array Value) w.drew:=run_firstCells_none w.drew i.size 0 0 0
  have hrz:∀ ty,(Builtin.append_ #[160,3] ty #[.slice none 0 0,.int .i64 (n:Int)]).run Tryz.prog w=.ok (.slice (some ⟨w.heap.size,0,none⟩) n (grownCap w n 0 167)) (w.drew.alloc (.cells (#[]++Builtin.zeroCells #[.int .i64 0,.int .i64 0] n++Builtin.zeroCells #[.int .i64 0,.int .i64 0] (grownCap w n 0 167-n)) 167)):=fun ty=>by
   have h:=Lib.run_append_grow_zeros w 160 3 ty 167 i (.agg #[.int .i64 0,.int .i64 0]) .i64 .i64 ht Tryz.underlying3 hi hz none 0 0 [] hold n hp (by omega) (by omega) (by omega) (by rw[hby];omega) (by rw[hby,Nat.zero_add];exact growslice_fits hp (by omega))
   simpa[Value.cells] using h
  have hge:=grownCap_ge w n 0 167
  have hle:=grownCap_le_maxLen w n 0 167 (by unfold maxLen;omega)
  generalize grownCap w n 0 167=G at *
  have hG63:G<=9223372036854775807:=by unfold maxLen at hle;omega
  have HLE:=hid hle
  clear hle hold ht hi hz hs hby
  go_enter Tryz.func208,Tryz.ntmps208
  go_wp2_with (at_builtin;refine Lib.wpList_append_run _ rfl _ _ _ _ rfl _ _ rfl rfl _ _ (hrz _) ?_)
  all_goals
   go_ret
   refine⟨_,rfl,⟨[],⟨rfl,fun j x h=>by simp at h⟩,by simp,.inr ⟨w.heap.size,G,_,rfl,Nat.le_refl _,heap_alloc_new _ _,Nat.zero_le _,HLE.out,?_,by simp⟩⟩,((Below.refl w.heap.size w).drew).alloc (Nat.le_refl _) _⟩
   simp[size_zeroCells]
   omega
def catK {α:Type}(a b:List α):Nat->List α|0=>[]|1=>a|_+2=>a++b
theorem Kx (a b:List (Int×Int))(va vb:Value)(B:Nat)(w:World)(h0:w.cell? ⟨B,0,none⟩=some va)(h1:w.cell? ⟨B,1,none⟩=some vb)(hB:B<w.heap.size)(ha:SlP w w.heap.size 2 RuE va a)(hb:SlP w w.heap.size 2 RuE vb b)(hN:a.length<=300000)(hN':b.length<=300000) :
  Calls Tryz.prog 182 #[.slice (some ⟨B,0,none⟩) 2 2] w (RetO w 167 2 (fun _=>RuE) (a++b)):=by
 have HA:=hid ha
 have HB:=hid hb
 obtain⟨A1,c1,rfl,_⟩:=ha
 obtain⟨A2,c2,rfl,_⟩:=hb
 have hla:((catK a b 2).length:Int)=a.length+b.length:=by simp[catK]
 go_enter Tryz.func182,Tryz.ntmps182
 go_wp2_with fail
 go_loop [3,11] (fun s i=>∃ k:Nat,k<=2/\i=.int .i64 k/\s=.int .i64 ((catK a b k).length:Nat)) (fun _ i=>2-(intOf i).toNat)
 case atStart=>exact⟨0,by omega,rfl,rfl⟩
 case round=>
  obtain⟨k,hk,rfl,rfl⟩:=hrel
  match k,hk with
  |0,_=>
   clear hla
   simp only[catK,List.length_nil]
   go_wp2_with fail
   go_round
   case rel=>exact⟨1,by omega,rfl,by simp⟩
   case measure=>simp[intOf]
  |1,_=>
   clear hla
   simp only[catK]
   go_wp2_with fail
   go_round
   case rel=>exact⟨2,by omega,rfl,by simp⟩
   case measure=>simp[intOf]
  |2,_=>
   obtain⟨m,hm⟩:∃ m:Nat,m=(catK a b 2).length:=⟨_,rfl⟩
   rw[←hm]at hla ⊢
   have hm2:m<=600000:=by omega
   clear hla hm
   go_wp2_with fail
   refine (qQi m w (by omega)).mono ?_
   rintro e w1 ⟨v1,rfl,ho1,hb1⟩
   have hs1:=hb1.size
   go_wp2_with fail
   go_loopw [6,27] (fun v i wr=>∃ k:Nat,k<=2/\i=.int .i64 k/\OwnP wr w.heap.size 167 2 RuE v (catK a b k)/\Below w.heap.size w wr) (fun _ i _=>2-(intOf i).toNat)
   case atStart=>exact⟨0,by omega,rfl,ho1,hb1⟩
   case round=>
    obtain⟨k,hk,rfl,hown,hbr⟩:=hrel
    have hsz:=hbr.size
    have e0:wr.cell? ⟨B,0,none⟩=some (.slice A1 a.length c1):=(hbr.cell (p:=⟨B,0,none⟩) hB).trans h0
    have e1:wr.cell? ⟨B,1,none⟩=some (.slice A2 b.length c2):=(hbr.cell (p:=⟨B,1,none⟩) hB).trans h1
    have HSA:=hid (HA.out.imp hbr hsz fun _ _ _ h=>h)
    have HSB:=hid (HB.out.imp hbr hsz fun _ _ _ h=>h)
    match k,hk with
    |0,_=>
     have HL:Hid ((catK a b 0).length+a.length<=Few):=by unfold Hid Few;simp[catK];omega
     go_wp2_with (at_builtin;refine Qi rfl (.tmp 31) (.tmp 32) _ rfl eiRun (by decide) (by decide) (fun _ _ h=>h.one) rfl hown rfl HSA.out HL.out hsz ?_;intro v2 w2 hown2 hb2 _)
     go_roundw
     case rel=>exact⟨1,by omega,rfl,by simpa[catK] using hown2,hbr.trans hb2⟩
     case measure=>simp[intOf]
    |1,_=>
     have HL:Hid ((catK a b 1).length+b.length<=Few):=by unfold Hid Few;simp[catK];omega
     go_wp2_with (at_builtin;refine Qi rfl (.tmp 31) (.tmp 32) _ rfl eiRun (by decide) (by decide) (fun _ _ h=>h.one) rfl hown rfl HSB.out HL.out hsz ?_;intro v2 w2 hown2 hb2 _)
     go_roundw
     case rel=>exact⟨2,by omega,rfl,by simpa[catK] using hown2,hbr.trans hb2⟩
     case measure=>simp[intOf]
    |2,_=>
     go_wp2_with fail
     go_ret
     exact⟨_,rfl,hown,hbr⟩
theorem OwnP.zero {α:Type}{w:World}{base n:Nat}{e:TypeId}{sz:Nat}{E:α->List Value->Prop}(h:w.heap[n]?=some (.cells #[] e (0,0)))(hb:base<=n):OwnP w base e sz E (.slice (some ⟨n,0,none⟩) 0 0) ([]:List α):=
 ⟨[],⟨rfl,fun j y hy=>by simp at hy⟩,by simp,.inr ⟨n,0,#[],rfl,hb,h,Nat.le_refl _,by simp[maxLen],by simp,by simp⟩⟩
theorem YX (xs:List _)(v:Value)(w:World)(h:SlP w w.heap.size 4 EnE v xs)(hN:xs.length<=Few) :
  Calls Tryz.prog 119 #[v] w (RetO w 80 4 (fun _=>EnE) xs):=by
 have H:=hid h
 have q:∀ (w:World) (a:Option Addr) (n c n' c':Nat),(binOp .eql 22 (.slice a n c) (.slice none n' c')).run Tryz.prog w=.ok (.bool a.isNone) w:=fun w a n c n' c'=>Lib.run_eql_slice_nil w _ _ a n c n' c' Tryz.underlying22
 obtain⟨A,c,rfl,h1,h2,h3⟩:=h
 cases A with
 |none=>
  have hz:xs=[]:=by
   rcases xs with _|⟨x,xs⟩
   ·rfl
   ·obtain⟨b,off,e,_⟩:=h3 (by simp);cases e
  subst hz
  go_enter Tryz.func119,Tryz.ntmps119
  go_wp2_with fail
  go_ret
  exact⟨_,rfl,OwnP.nil,Below.refl _ _⟩
 |some a=>
  have HN:=hid hN
  clear h1 h2 h3
  go_enter Tryz.func119,Tryz.ntmps119
  go_wp2_with (at_builtin;go_loud (refine Qi rfl (.tmp 5) (.tmp 6) _ rfl Zy (by decide) (by decide) (fun _ _ h=>h.one) rfl (OwnP.zero (base:=w.heap.size) (Qg rfl) (Nat.le_refl _)) rfl (H.out.imp ((Below.refl _ w).alloc (Nat.le_refl _) _) (Nat.le_refl _) fun _ _ _ h=>h) (by simpa using HN.out) (by simp) ?_);intro v2 w2 hown2 hb2 _)
  go_ret
  exact⟨_,rfl,by simpa using hown2,((Below.refl _ w).alloc (Nat.le_refl _) _).trans hb2⟩
theorem Ky (xs:List _)(v:Value)(w:World)(h:SlP w w.heap.size 3 SpE v xs)(hN:xs.length<=Few) :
  Calls Tryz.prog 37 #[v] w (RetO w 45 3 (fun _=>SpE) xs):=by
 have H:=hid h
 have q:∀ (w:World) (a:Option Addr) (n c n' c':Nat),(binOp .eql 27 (.slice a n c) (.slice none n' c')).run Tryz.prog w=.ok (.bool a.isNone) w:=fun w a n c n' c'=>Lib.run_eql_slice_nil w _ _ a n c n' c' Tryz.underlying27
 obtain⟨A,c,rfl,h1,h2,h3⟩:=h
 cases A with
 |none=>
  have hz:xs=[]:=by
   rcases xs with _|⟨x,xs⟩
   ·rfl
   ·obtain⟨b,off,e,_⟩:=h3 (by simp);cases e
  subst hz
  go_enter Tryz.func37,Tryz.ntmps37
  go_wp2_with fail
  go_ret
  exact⟨_,rfl,OwnP.nil,Below.refl _ _⟩
 |some a=>
  have HN:=hid hN
  clear h1 h2 h3
  go_enter Tryz.func37,Tryz.ntmps37
  go_wp2_with (at_builtin;go_loud (refine Qi rfl (.tmp 5) (.tmp 6) _ rfl Xw (by decide) (by decide) (fun _ _ h=>h.one) rfl (OwnP.zero (base:=w.heap.size) (Qg rfl) (Nat.le_refl _)) rfl (H.out.imp ((Below.refl _ w).alloc (Nat.le_refl _) _) (Nat.le_refl _) fun _ _ _ h=>h) (by simpa using HN.out) (by simp) ?_);intro v2 w2 hown2 hb2 _)
  go_ret
  exact⟨_,rfl,by simpa using hown2,((Below.refl _ w).alloc (Nat.le_refl _) _).trans hb2⟩
end Go.Proofs.YtbcoelggdikipaaGreat
