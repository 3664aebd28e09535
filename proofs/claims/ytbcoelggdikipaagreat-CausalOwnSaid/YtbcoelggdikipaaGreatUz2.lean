/- What the laws need. No condition but those that each lemma states. -/
import Derived.Deep.RegionHeld3
import Derived.Deep.RegionLaw
import Derived.Laws.StructEq
import Derived.Sort.Walk0
import Derived.Test.YtbcoelggdikipaaGreatUz1
set_option maxRecDepth 100000
set_option maxHeartbeats 8000000
set_option linter.unusedSimpArgs false
namespace Go.Proofs.YtbcoelggdikipaaGreat
open Go.RowKit
def okR:Option Int->Int->Bool
 |none,_=>true
 |some h,x=>decide (h+1<x)
def runsR:Option Int->List (Int×Int)->Bool
 |_,[]=>true
 |p,r :: rs=>numB r.1&&numB r.2&&decide (r.1<=r.2)&&okR p r.1&&runsR (some r.2) rs
theorem Z1 (p:Option Int)(r:Int×Int)(rs:List (Int×Int)):runsR p (r :: rs)=(numB r.1&&numB r.2&&decide (r.1<=r.2)&&okR p r.1&&runsR (some r.2) rs):=by cases p<;>rfl
def prevR (l:List (Int×Int))(k:Nat):Option Int:=if k=0 then none else l[k-1]?.map (·.2)
theorem Zo {l:List (Int×Int)}{k:Nat}{x:Int×Int}(h:l[k]?=some x):prevR l (k+1)=some x.2:=by simp[prevR,h]
theorem Q6 (l:List (Int×Int))(v:Value)(w:World)(h:SlP w w.heap.size 2 RuE v l) :
  Calls Tryz.prog 168 #[v] w fun e w'=>e=.returned (.bool (runsR none l))/\Below w.heap.size w w':=by
 obtain⟨A,n,rfl,b1,b2,b3⟩:=h
 unfold Big at b2
 go_enter Tryz.func168,Tryz.ntmps168
 go_wp2_with fail
 go_loopw [7] (fun i wr=>∃ k:Nat,k<=l.length/\i=.int .i64 k/\Hid (runsR (prevR l k) (l.drop k)=runsR none l)/\Hid (∀ h,prevR l k=some h->1<=h/\h<=1099511627776)/\Below w.heap.size w wr) (fun i _=>l.length-(intOf i).toNat)
 case atStart=>exact⟨0,Nat.zero_le _,rfl,rfl,fun _ h=>by simp[prevR]at h,Below.refl _ _⟩
 case round=>
  obtain⟨k,hk,rfl,hrel,hpr,hb⟩:=hrel
  have hsz:=hb.size
  by_cases hlt:k<l.length
  ·obtain⟨r,hx⟩:∃ x,l[k]?=some x:=⟨_,List.getElem?_eq_getElem hlt⟩
   obtain⟨b,off,rfl,hbB,hc⟩:=b3 (by rintro rfl;simp at hlt)
   obtain⟨cs,⟨rfl,hok⟩,_,hu⟩:=hc k _ hx
   have e0:wr.cell? ⟨b,off+k*2,none⟩=some (.int .i64 r.1):=(hb.cell hbB).trans (hu 0 _ rfl)
   have e1:wr.cell? ⟨b,off+k*2+1,none⟩=some (.int .i64 r.2):=(hb.cell hbB).trans (hu 1 _ rfl)
   have HR:Hid (runsR none l=(numB r.1&&numB r.2&&decide (r.1<=r.2)&&okR (prevR l k) r.1&&runsR (prevR l (k+1)) (l.drop (k+1)))):=by
    have:=hrel.out
    rw[QA hx,Z1]at this
    rw[Zo hx];exact this.symm
   have HPS:=hid (Zo hx)
   have f0:=Qg (B:=wr.heap.size+1) (w:=wr.alloc (.cells #[.int .i64 r.1,.int .i64 r.2] 167)) (b:=wr.heap.size) (o:=0) (v:=.int .i64 r.1) (by simp) (by omega)
   have f1:=Qg (B:=wr.heap.size+1) (w:=wr.alloc (.cells #[.int .i64 r.1,.int .i64 r.2] 167)) (b:=wr.heap.size) (o:=1) (v:=.int .i64 r.2) (by simp) (by omega)
   have hprev:∃ q:Int,(0<k->prevR l k=some q/\(∀ p:Far (wr.heap.size+1) (wr.alloc (.cells #[.int .i64 r.1,.int .i64 r.2] 167)),p.w'.cell? ⟨b,off+(k-1)*2+1,none⟩=some (.int .i64 q))):=by
    by_cases h0:0<k
    ·obtain⟨y,hy⟩:∃ y,l[k-1]?=some y:=⟨_,List.getElem?_eq_getElem (by omega)⟩
     obtain⟨cs,⟨rfl,_⟩,_,hu⟩:=hc (k-1) _ hy
     refine⟨y.2,fun _=>⟨by rw[prevR,if_neg (by omega),hy];rfl,fun p=>Qg ?_ (by omega) p⟩⟩
     rw[World.cell?_alloc_lt _ _ _ (by exact Nat.lt_of_lt_of_le hbB hsz)];exact (hb.cell hbB).trans (hu 1 _ rfl)
    ·exact⟨0,fun h=>absurd h h0⟩
   obtain⟨q,hprev⟩:=hprev
   go_upto_region 4 with (fail)
   clear hrel hu hc b3 hx e0 e1
   rcases h1:numB r.1
   ·refine Qc (wr.heap.size+1) (by kernel_rfl) (by kernel_rfl) ?_
    repeat (go_big_quiet_step ((go_at_call 187;exact Calls.far_of (by simp) (ZZ (Zc _ _)))))
    refine wpQuiet_nil ?_
    intro wq hbq
    have hbw:Below w.heap.size w wq:=(hb.alloc (by omega) _).trans (hbq.mono (by omega))
    go_wp2_with fail
    go_ret
    refine⟨Qd ?_,hbw⟩
    rw[HR.out]
    rw[h1];simp
   rcases h2:numB r.2
   ·refine Qc (wr.heap.size+1) (by kernel_rfl) (by kernel_rfl) ?_
    repeat (go_big_quiet_step ((go_at_call 187;exact Calls.far_of (by simp) (ZZ (Zc _ _)))))
    refine wpQuiet_nil ?_
    intro wq hbq
    have hbw:Below w.heap.size w wq:=(hb.alloc (by omega) _).trans (hbq.mono (by omega))
    go_wp2_with fail
    go_ret
    refine⟨Qd ?_,hbw⟩
    rw[HR.out]
    rw[h1,h2];simp
   have HN:Hid (∀ h,prevR l (k+1)=some h->1<=h/\h<=1099511627776):=fun h hh=>by rw[HPS.out]at hh;cases hh;simpa[numB] using h2
   rcases t3:decide (r.2<r.1)
   case true=>
    have h3:Hid (decide (r.1<=r.2)=false):=by have:=of_decide_eq_true t3;unfold Hid;simp;omega
    refine Qc (wr.heap.size+1) (by kernel_rfl) (by kernel_rfl) ?_
    repeat (go_big_quiet_step ((go_at_call 187;exact Calls.far_of (by simp) (ZZ (Zc _ _)))))
    refine wpQuiet_nil ?_
    intro wq hbq
    have hbw:Below w.heap.size w wq:=(hb.alloc (by omega) _).trans (hbq.mono (by omega))
    go_wp2_with fail
    go_ret
    refine⟨Qd ?_,hbw⟩
    rw[HR.out]
    rw[h1,h2,h3.out];simp
   have h3:Hid (decide (r.1<=r.2)=true):=by have:=of_decide_eq_false t3;unfold Hid;simp;omega
   rcases Nat.eq_zero_or_pos k with h0|h0
   ·have t0:decide ((0:Int)<(k:Int))=false:=by simp;omega
    have t0':decide (0<k)=false:=by simp;omega
    have hpk:Hid (okR (prevR l k) r.1=true):=by rw[show prevR l k=none by (rw[h0];rfl)];rfl
    clear h0 hprev
    refine Qc (wr.heap.size+1) (by kernel_rfl) (by kernel_rfl) ?_
    repeat (go_big_quiet_step ((go_at_call 187;exact Calls.far_of (by simp) (ZZ (Zc _ _)))))
    refine wpQuiet_nil ?_
    intro wq hbq
    have hbw:Below w.heap.size w wq:=(hb.alloc (by omega) _).trans (hbq.mono (by omega))
    go_wp2_with fail
    go_roundw
    case rel=>
     refine⟨k+1,by omega,by go_num,?_,HN.out,hbw⟩
     show _=_
     rw[HR.out,h1,h2]
     rw[h3.out,hpk.out];simp
    case measure=>simp[intOf];omega
   ·obtain⟨hq,q0⟩:=hprev h0
    have hqb:=hpr.out q hq
    have hwq:IntKind.i64.wrap (q+1)=q+1:=IntWalk.i64_in _ (by omega)
    have hwk:IntKind.i64.wrap ((k:Int)-1)=(k:Int)-1:=IntWalk.i64_in _ (by omega)
    rcases t5:decide (r.1<=q+1)
    ·have hpk:Hid (okR (prevR l k) r.1=true):=by rw[hq];have:=of_decide_eq_false t5;unfold Hid;simp[okR];omega
     clear hprev hq hqb
     refine Qc (wr.heap.size+1) (by kernel_rfl) (by kernel_rfl) ?_
     repeat (go_big_quiet_step ((go_at_call 187;exact Calls.far_of (by simp) (ZZ (Zc _ _)))))
     refine wpQuiet_nil ?_
     intro wq hbq
     have hbw:Below w.heap.size w wq:=(hb.alloc (by omega) _).trans (hbq.mono (by omega))
     go_wp2_with fail
     go_roundw
     case rel=>
      refine⟨k+1,by omega,by go_num,?_,HN.out,hbw⟩
      show _=_
      rw[HR.out,h1,h2]
      rw[h3.out,hpk.out];simp
     case measure=>simp[intOf];omega
    ·have hpk:Hid (okR (prevR l k) r.1=false):=by rw[hq];have:=of_decide_eq_true t5;unfold Hid;simp[okR];omega
     clear hprev hq hqb
     refine Qc (wr.heap.size+1) (by kernel_rfl) (by kernel_rfl) ?_
     repeat (go_big_quiet_step ((go_at_call 187;exact Calls.far_of (by simp) (ZZ (Zc _ _)))))
     refine wpQuiet_nil ?_
     intro wq hbq
     have hbw:Below w.heap.size w wq:=(hb.alloc (by omega) _).trans (hbq.mono (by omega))
     go_wp2_with fail
     go_ret
     refine⟨Qd ?_,hbw⟩
     rw[HR.out]
     rw[h1,h2,h3.out,hpk.out];simp
  ·obtain rfl:k=l.length:=by omega
   have hr:=hrel.out
   go_wp2_with fail
   go_ret
   exact⟨Qd (by rw[←hr];simp[runsR]),hb⟩
def inR (r:Int×Int)(n:Int):Bool:=decide (r.1<=n)&&decide (n<=r.2)
def hasL (l:List (Int×Int))(n:Int):Bool:=l.any fun r=>inR r n
def QL (l:List (Int×Int)):Prop:=∀ r∈l,0<=r.1/\r.1<=1099511627777/\0<=r.2/\r.2<=1099511627777
def nextS (above:Int)(s:Int×Bool)(x:Int):Int×Bool:=if above<x/\(s.2=false∨x<s.1) then (x,true) else s
def nextL (l:List Int)(above:Int):Int×Bool:=l.foldl (nextS above) (0,false)
def endsL (l:List (Int×Int)):List Int:=l.flatMap fun r=>[r.1,r.2+1]
def Qr (dc:Int)(l:List (Int×Int)):List Sp:=l.map fun r=>⟨dc,r.1,r.2⟩
theorem QS {α:Type}{xs:List α}{k:Nat}{x:α}(h:xs[k]?=some x):xs.take (k+1)=xs.take k++[x]:=by rw[List.take_add_one,h];rfl
theorem YY (l:List (Int×Int))(n:Int)(v:Value)(w:World)(B:Nat)(h:SlP w B 2 RuE v l) :
  Calls Tryz.prog 95 #[v,.int .i64 n] w fun e w'=>e=.returned (.bool (hasL l n))/\w=w':=by
 obtain⟨A,m,rfl,b1,b2,b3⟩:=h
 unfold Big at b2
 go_enter Tryz.func95,Tryz.ntmps95
 go_wp2_with fail
 go_loop [8] (fun i=>∃ k:Nat,k<=l.length/\i=.int .i64 k/\Hid (hasL (l.take k) n=false)) (fun i=>l.length-(intOf i).toNat)
 case atStart=>exact⟨0,Nat.zero_le _,rfl,rfl⟩
 case round=>
  obtain⟨k,hk,rfl,hrel⟩:=hrel
  by_cases hlt:k<l.length
  ·obtain⟨x,hx⟩:∃ x,l[k]?=some x:=⟨_,List.getElem?_eq_getElem hlt⟩
   obtain⟨b,off,rfl,hbB,hc⟩:=b3 (by rintro rfl;simp at hlt)
   obtain⟨cs,⟨rfl,hok⟩,_,hu⟩:=hc k _ hx
   have e0:w.cell? ⟨b,off+k*2,none⟩=some (.int .i64 x.1):=hu 0 _ rfl
   have e1:w.cell? ⟨b,off+k*2+1,none⟩=some (.int .i64 x.2):=hu 1 _ rfl
   have HX:Hid (hasL (l.take (k+1)) n=inR x n):=by
    unfold Hid;rw[QS hx];have:=hrel.out;unfold hasL at *;rw[List.any_append,this];simp
   have HM:Hid (x∈l):=List.mem_of_getElem? hx
   clear hu hx hc b3
   by_cases h1:x.1<=n
   ·by_cases h2:n<=x.2
    ·go_wp2_with fail
     go_ret
     refine⟨Qd ?_,rfl⟩
     exact (List.any_eq_true.2 ⟨x,HM.out,by simp[inR,h1,h2]⟩).symm
    ·go_wp2_with fail
     go_round
     case rel=>exact⟨k+1,by omega,by go_num,by unfold Hid;rw[HX.out];simp[inR];omega⟩
     case measure=>simp[intOf];omega
   ·go_wp2_with fail
    go_round
    case rel=>exact⟨k+1,by omega,by go_num,by unfold Hid;rw[HX.out];simp[inR];omega⟩
    case measure=>simp[intOf];omega
  ·obtain rfl:k=l.length:=by omega
   have hr:=hrel.out
   rw[List.take_of_length_le (Nat.le_refl _)]at hr
   have HR:=hid hr
   clear hr
   go_wp2_with fail
   go_ret
   exact⟨Qd HR.out.symm,rfl⟩
theorem QM (l:List Int)(n:Int)(v:Value)(w:World)(B:Nat)(h:SlP w B 1 InE v l) :
  Calls Tryz.prog 190 #[v,.int .i64 n] w fun e w'=>e=.returned (.tuple #[.int .i64 (nextL l n).1,.bool (nextL l n).2])/\w=w':=by
 obtain⟨A,m,rfl,b1,b2,b3⟩:=h
 unfold Big at b2
 go_enter Tryz.func190,Tryz.ntmps190
 go_wp2_with fail
 go_loop [6,7,11] (fun p q i=>∃ (k:Nat) (s:Int×Bool),k<=l.length/\i=.int .i64 k/\p=.int .i64 s.1/\q=.bool s.2/\Hid (s=nextL (l.take k) n)) (fun _ _ i=>l.length-(intOf i).toNat)
 case atStart=>exact⟨0,(0,false),Nat.zero_le _,rfl,rfl,rfl,rfl⟩
 case round=>
  obtain⟨k,⟨p,q⟩,hk,rfl,rfl,rfl,hrel⟩:=hrel
  by_cases hlt:k<l.length
  ·obtain⟨x,hx⟩:∃ x,l[k]?=some x:=⟨_,List.getElem?_eq_getElem hlt⟩
   obtain⟨b,off,rfl,hbB,hc⟩:=b3 (by rintro rfl;simp at hlt)
   obtain⟨cs,⟨rfl,hok⟩,_,hu⟩:=hc k _ hx
   have e0:w.cell? ⟨b,off+k,none⟩=some (.int .i64 x):=by simpa using hu 0 _ rfl
   have HX:Hid (nextL (l.take (k+1)) n=nextS n (p,q) x):=by
    unfold Hid;rw[QS hx];have:=hrel.out;unfold nextL at *;rw[List.foldl_append,←this];rfl
   clear hu hx hc b3 hok
   by_cases h1:n<x
   ·cases q
    ·go_wp2_with fail
     go_round
     case rel=>exact⟨k+1,(x,true),by omega,by go_num,rfl,rfl,by unfold Hid;rw[HX.out];simp[nextS,h1]⟩
     case measure=>simp[intOf];omega
    ·by_cases h2:x<p
     ·go_wp2_with fail
      go_round
      case rel=>exact⟨k+1,(x,true),by omega,by go_num,rfl,rfl,by unfold Hid;rw[HX.out];simp[nextS,h1,h2]⟩
      case measure=>simp[intOf];omega
     ·go_wp2_with fail
      go_round
      case rel=>exact⟨k+1,(p,true),by omega,by go_num,rfl,rfl,by unfold Hid;rw[HX.out];simp[nextS,h2]⟩
      case measure=>simp[intOf];omega
   ·go_wp2_with fail
    go_round
    case rel=>exact⟨k+1,(p,q),by omega,by go_num,rfl,rfl,by unfold Hid;rw[HX.out];simp[nextS,h1]⟩
    case measure=>simp[intOf];omega
  ·obtain rfl:k=l.length:=by omega
   have hr:=hrel.out
   rw[List.take_of_length_le (Nat.le_refl _)]at hr
   go_wp2_with fail
   go_ret2
   rw[←hr]
   exact⟨rfl,rfl⟩
theorem Yv (l:List (Int×Int))(v:Value)(w:World)(h:SlP w w.heap.size 2 RuE v l)(hN:l.length<=400000)(hR:QL l) :
  Calls Tryz.prog 189 #[v] w (RetO w 2 1 (fun _=>InE) (endsL l)):=by
 obtain⟨A,n,rfl,b1,b2,b3⟩:=h
 unfold Big at b2
 go_enter Tryz.func189,Tryz.ntmps189
 go_wp2_with fail
 go_loopw [3,7] (fun v i wr=>∃ k:Nat,k<=l.length/\i=.int .i64 k/\OwnP wr w.heap.size 2 1 InE v (endsL (l.take k))/\Below w.heap.size w wr) (fun _ i _=>l.length-(intOf i).toNat)
 case atStart=>exact⟨0,Nat.zero_le _,rfl,OwnP.nil,Below.refl _ _⟩
 case round=>
  obtain⟨k,hk,rfl,hown,hb⟩:=hrel
  have hsz:=hb.size
  by_cases hlt:k<l.length
  ·obtain⟨x,hx⟩:∃ x,l[k]?=some x:=⟨_,List.getElem?_eq_getElem hlt⟩
   obtain⟨b,off,rfl,hbB,hc⟩:=b3 (by rintro rfl;simp at hlt)
   obtain⟨cs,⟨rfl,hok⟩,_,hu⟩:=hc k _ hx
   have e0:wr.cell? ⟨b,off+k*2,none⟩=some (.int .i64 x.1):=(hb.cell hbB).trans (hu 0 _ rfl)
   have e1:wr.cell? ⟨b,off+k*2+1,none⟩=some (.int .i64 x.2):=(hb.cell hbB).trans (hu 1 _ rfl)
   have HX:Hid (endsL (l.take (k+1))=endsL (l.take k)++[x.1,x.2+1]):=by unfold Hid endsL;rw[QS hx,List.flatMap_append];simp
   have HL:Hid ((endsL (l.take k)).length + [x.1,x.2+1].length<=Few):=by
    have:(endsL (l.take k)).length=2*(l.take k).length:=by
     unfold endsL;rw[List.length_flatMap];simp[List.map_const'];omega
    unfold Hid Few;rw[this];simp;omega
   have hr:=hR x (List.mem_of_getElem? hx)
   have i0:InE x.1 [.int .i64 x.1]:=⟨rfl,hok.1⟩
   have i1:InE (x.2+1) [.int .i64 (x.2+1)]:=⟨rfl,by unfold I64;omega⟩
   have HS:Hid (∀ w',Below w.heap.size wr w'->w'.cell? ⟨b,off+k*2,none⟩=some (.int .i64 x.1)/\w'.cell? ⟨b,off+k*2+1,none⟩=some (.int .i64 x.2)):=fun w' hb'=>⟨(hb'.cell hbB).trans e0,(hb'.cell hbB).trans e1⟩
   have J0:=hid i0
   have J1:=hid i1
   have hwr:IntKind.i64.wrap (x.2+1)=x.2+1:=IntWalk.i64_in _ (by omega)
   clear hu hx hc b3 hok i0 i1
   go_wp2_with fail
   go_region_held3 (fun w'=>w'.cell? ⟨b,off+k*2,none⟩=some (.int .i64 x.1)/\w'.cell? ⟨b,off+k*2+1,none⟩=some (.int .i64 x.2)) (first|go_keep|exact HS.out _ (((Below.refl _ wr).alloc hsz _).drew.trans hb1))
    (first|(refine QZ rfl (.tmp 10) (.tmp 22) _ rfl Xk (by decide) (by decide) (fun _ _ h=>h.one) rfl (hown.drew.alloc _) rfl (SlP.two J0.out J1.out rfl rfl _ rfl) HL.out (by rw[World.size_drew,World.size_alloc];omega) ?_;intro v1 w1 hown1 hb1 hg1))
   clear hwr
   go_wp2_with fail
   go_roundw
   case rel=>exact⟨k+1,by omega,by go_num,by rw[HX.out];exact hown1,(hb.alloc hsz _).drew.trans hb1⟩
   case measure=>simp[intOf];omega
  ·obtain rfl:k=l.length:=by omega
   rw[List.take_of_length_le (Nat.le_refl _)]at hown
   go_wp2_with fail
   go_ret
   exact⟨_,rfl,hown,hb⟩
theorem Ye (l:List (Int×Int))(dc:Int)(v:Value)(w:World)(h:SlP w w.heap.size 2 RuE v l)(hN:l.length<=999999)(hd:I64 dc) :
  Calls Tryz.prog 162 #[.int .i64 dc,v] w (RetO w 45 3 (fun _=>SpE) (Qr dc l)):=by
 obtain⟨A,n,rfl,b1,b2,b3⟩:=h
 unfold Big at b2
 go_enter Tryz.func162,Tryz.ntmps162
 go_wp2_with fail
 go_loopw [5,9] (fun v i wr=>∃ k:Nat,k<=l.length/\i=.int .i64 k/\OwnP wr w.heap.size 45 3 SpE v (Qr dc (l.take k))/\Below w.heap.size w wr) (fun _ i _=>l.length-(intOf i).toNat)
 case atStart=>exact⟨0,Nat.zero_le _,rfl,OwnP.nil,Below.refl _ _⟩
 case round=>
  obtain⟨k,hk,rfl,hown,hb⟩:=hrel
  have hsz:=hb.size
  by_cases hlt:k<l.length
  ·obtain⟨x,hx⟩:∃ x,l[k]?=some x:=⟨_,List.getElem?_eq_getElem hlt⟩
   obtain⟨b,off,rfl,hbB,hc⟩:=b3 (by rintro rfl;simp at hlt)
   obtain⟨cs,⟨rfl,hok⟩,_,hu⟩:=hc k _ hx
   have e0:wr.cell? ⟨b,off+k*2,none⟩=some (.int .i64 x.1):=(hb.cell hbB).trans (hu 0 _ rfl)
   have e1:wr.cell? ⟨b,off+k*2+1,none⟩=some (.int .i64 x.2):=(hb.cell hbB).trans (hu 1 _ rfl)
   have HX:Hid (Qr dc (l.take (k+1))=Qr dc (l.take k)++[⟨dc,x.1,x.2⟩]):=by unfold Hid Qr;rw[QS hx,List.map_append];rfl
   have HL:Hid ((Qr dc (l.take k)).length + [(⟨dc,x.1,x.2⟩:Sp)].length<=Few):=by
    unfold Hid Few Qr;simp;omega
   have J0:Hid (SpE ⟨dc,x.1,x.2⟩ [.int .i64 dc,.int .i64 x.1,.int .i64 x.2]):=⟨rfl,hd,hok.1,hok.2⟩
   have HS:Hid (∀ w',Below w.heap.size wr w'->w'.cell? ⟨b,off+k*2,none⟩=some (.int .i64 x.1)/\w'.cell? ⟨b,off+k*2+1,none⟩=some (.int .i64 x.2)):=fun w' hb'=>⟨(hb'.cell hbB).trans e0,(hb'.cell hbB).trans e1⟩
   clear hu hx hc b3 hok
   go_wp2_with fail
   go_region_held3 (fun w'=>w'.cell? ⟨b,off+k*2,none⟩=some (.int .i64 x.1)/\w'.cell? ⟨b,off+k*2+1,none⟩=some (.int .i64 x.2)) (first|go_keep|exact HS.out _ (((Below.refl _ wr).alloc hsz _).drew.trans hb1))
    (first|(refine QZ rfl (.tmp 12) (.tmp 25) _ rfl Yu (by decide) (by decide) (fun _ _ h=>h.one) rfl (hown.drew.alloc _) rfl (SlP.one J0.out rfl _ rfl) HL.out (by rw[World.size_drew,World.size_alloc];omega) ?_;intro v1 w1 hown1 hb1 hg1))
   go_wp2_with fail
   go_roundw
   case rel=>exact⟨k+1,by omega,by go_num,by rw[HX.out];exact hown1,(hb.alloc hsz _).drew.trans hb1⟩
   case measure=>simp[intOf];omega
  ·obtain rfl:k=l.length:=by omega
   rw[List.take_of_length_le (Nat.le_refl _)]at hown
   go_wp2_with fail
   go_ret
   exact⟨_,rfl,hown,hb⟩
def partL (c:List Sp)(dc:Int):List (Int×Int):=(c.filter fun s=>s.dc==dc).map fun s=>(s.fr,s.hi)
theorem YZ {c:List Sp}{k:Nat}{x:Sp}(h:c[k]?=some x)(dc:Int):partL (c.take (k+1)) dc=partL (c.take k) dc++(if x.dc=dc then [(x.fr,x.hi)] else []):=by
 unfold partL
 rw[List.take_add_one,h]
 by_cases hd:x.dc=dc<;>simp[hd]
theorem Qs (c:List Sp)(dc:Int):(partL c dc).length<=c.length:=by
 unfold partL;rw[List.length_map];exact List.length_filter_le _ _
theorem ZB (c:List Sp)(dc:Int)(vc:Value)(w:World)(h:SlP w w.heap.size 3 SpE vc c)(hN:c.length<=999999) :
  Calls Tryz.prog 96 #[vc,.int .i64 dc] w (RetO w 166 2 (fun _=>RuE) (partL c dc)):=by
 obtain⟨A,n,rfl,b1,b2,b3⟩:=h
 unfold Big at b2
 go_enter Tryz.func96,Tryz.ntmps96
 go_wp2_with fail
 go_loopw [5,9] (fun v i wr=>∃ k:Nat,k<=c.length/\i=.int .i64 k/\OwnP wr w.heap.size 166 2 RuE v (partL (c.take k) dc)/\Below w.heap.size w wr) (fun _ i _=>c.length-(intOf i).toNat)
 case atStart=>exact⟨0,Nat.zero_le _,rfl,OwnP.nil,Below.refl _ _⟩
 case round=>
  obtain⟨k,hk,rfl,hown,hb⟩:=hrel
  have hsz:=hb.size
  by_cases hlt:k<c.length
  ·obtain⟨x,hx⟩:∃ x,c[k]?=some x:=⟨_,List.getElem?_eq_getElem hlt⟩
   obtain⟨b,off,rfl,hbB,hc⟩:=b3 (by rintro rfl;simp at hlt)
   obtain⟨cs,⟨rfl,hok⟩,_,hu⟩:=hc k _ hx
   have e0:wr.cell? ⟨b,off+k*3,none⟩=some (.int .i64 x.dc):=(hb.cell hbB).trans (hu 0 _ rfl)
   have e1:wr.cell? ⟨b,off+k*3+1,none⟩=some (.int .i64 x.fr):=(hb.cell hbB).trans (hu 1 _ rfl)
   have e2:wr.cell? ⟨b,off+k*3+2,none⟩=some (.int .i64 x.hi):=(hb.cell hbB).trans (hu 2 _ rfl)
   have HX:=hid (YZ hx dc)
   have HL:Hid ((partL (c.take k) dc).length + [(x.fr,x.hi)].length<=Few):=by
    have:=Qs (c.take k) dc
    unfold Hid Few;simp at this ⊢;omega
   have hr:I64 (x.fr,x.hi).1/\I64 (x.fr,x.hi).2:=⟨hok.fr,hok.hi⟩
   have HS:Hid (∀ w',Below w.heap.size wr w'->w'.cell? ⟨b,off+k*3+1,none⟩=some (.int .i64 x.fr)/\w'.cell? ⟨b,off+k*3+2,none⟩=some (.int .i64 x.hi)):=fun w' hb'=>⟨(hb'.cell hbB).trans e1,(hb'.cell hbB).trans e2⟩
   clear hu hx hc b3 hok
   by_cases hd:x.dc=dc
   ·have hd':(x.dc==dc)=true:=by simpa using hd
    have HD:=hid hd
    clear hd
    go_wp2_with fail
    go_region_held3 (fun w'=>w'.cell? ⟨b,off+k*3+1,none⟩=some (.int .i64 x.fr)/\w'.cell? ⟨b,off+k*3+2,none⟩=some (.int .i64 x.hi)) (first|go_keep|exact HS.out _ (((Below.refl _ wr).alloc hsz _).drew.trans hb1))
     (first|(refine QZ rfl (.tmp 19) (.tmp 31) _ rfl Q4 (by decide) (by decide) (fun _ _ h=>h.one) rfl (hown.drew.alloc _) rfl (SlP.one (x:=(x.fr,x.hi)) (cs:=[.int .i64 x.fr,.int .i64 x.hi]) ⟨rfl,hr⟩ rfl _ rfl) HL.out (by rw[World.size_drew,World.size_alloc];omega) ?_;intro v1 w1 hown1 hb1 hg1))
    go_wp2_with fail
    go_roundw
    case rel=>exact⟨k+1,by omega,by go_num,by rw[HX.out,if_pos HD.out];exact hown1,(hb.alloc hsz _).drew.trans hb1⟩
    case measure=>simp[intOf];omega
   ·have hd':(x.dc==dc)=false:=by simpa using hd
    have HD:=hid hd
    clear hd
    go_wp2_with fail
    go_roundw
    case rel=>exact⟨k+1,by omega,by go_num,by rw[HX.out,if_neg HD.out,List.append_nil];exact hown,hb⟩
    case measure=>simp[intOf];omega
  ·obtain rfl:k=c.length:=by omega
   rw[List.take_of_length_le (Nat.le_refl _)]at hown
   go_wp2_with fail
   go_ret
   exact⟨_,rfl,hown,hb⟩
def PopQ (Q:Exit->Act->World->Prop)(R:Act->World->Prop):Exit->Act->World->Prop
 |.normal,a,w=>R a w
 |e,a,w=>Q e a w
theorem PopQ.wp {P:Program}{o:Oper}{a:Act}{w:World}{K:Act->World->Prop}{Q:Exit->Act->World->Prop}{R:Act->World->Prop}(h:o.wp P a w K (PopQ Q R)):o.wp P a w K Q:=by
 unfold Oper.wp at *
 cases hr:(execOp a.eval o).run P w with
 |ok n w'=>
  rw[hr]at h
  cases n with
  |value v=>exact h
  |skip=>exact h
  |defer d=>exact h
  |enter f args=>exact Calls.mono h fun e w'' he=>by cases e<;>exact he
  |row row args=>exact h
  |_=>exact h
 |halt x w'=>
  rw[hr]at h
  cases x<;>exact h
section
variable {P:Program}{Q:Exit->Act->World->Prop}{md:Region.Mode}{ops':Array Oper}{o:Oper}
theorem Z2 (hord:∀ (j:Nat) (x:Oper),ops'[j]?=some x->∀ e∈x.after,e.on<j){listed:Array Bool}(hs:listed.size=ops'.size)(hr:Region.ready md ops' listed=[]):∀ j,j<ops'.size->listed.getD j false=true:=by
 intro j
 induction j using Nat.strongRecOn with
 |ind j ih=>
  intro hj
  cases hl:listed.getD j false with
  |true=>rfl
  |false=>
   have hx:ops'[j]?=some ops'[j]:=Array.getElem?_eq_getElem hj
   have:j∈Region.ready md ops' listed:=mem_ready.2 ⟨by simp[Array.getElem?_eq_getElem (hs▸hj:j<listed.size)]at hl ⊢;exact hl,_,hx,fun e he _=>ih e.on (hord j _ hx e he) (Nat.lt_trans (hord j _ hx e he) hj)⟩
   rw[hr]at this;cases this
theorem JQ (hg:∀ (j:Nat) (x:Oper),ops'[j]?=some x->x.guard=none){i:Nat}{a:Act}{w:World}{K K':Act->World->Prop}{R:Act->World->Prop}(hi:i<ops'.size)(hK:∀ a w,K a w->K' a w)(h:wpOp P ops' (PopQ Q R) i K a w) :
  wpOp P (ops'.push o) Q i K' a w:=by
 have hx:ops'[i]?=some ops'[i]:=Array.getElem?_eq_getElem hi
 have hx':(ops'.push o)[i]?=some ops'[i]:=by rw[Array.getElem?_push,if_neg (by omega)];exact hx
 have hw:∀ ops:Array Oper,Region.wanted ops'[i] (yielded ops a.tmps)=true:=fun ops=>by simp[Region.wanted,hg i _ hx]
 unfold wpOp at *
 rw[hx'] ;rw[hx]at h
 simp only[hw,if_true]at *
 rcases h with h|h
 ·exact .inl (Oper.wp_mono hK (PopQ.wp h))
 ·exact .inr h
theorem K5 (hg:∀ (j:Nat) (x:Oper),ops'[j]?=some x->x.guard=none)(hord:∀ (j:Nat) (x:Oper),ops'[j]?=some x->∀ e∈x.after,e.on<j)(hlast:∀ j,j<ops'.size->∃ e∈o.after,Region.binds md e=true/\e.on=j)(hon:∀ e∈o.after,e.on<ops'.size)(hgo:o.guard=none) :
  ∀ (fuel:Nat) (listed:Array Bool) (a:Act) (w:World),listed.size=ops'.size->wpAny P md ops' (PopQ Q (wpList P (ops'.push o) Q [o])) fuel listed a w->wpAny P md (ops'.push o) Q (fuel+1) (listed.push false) a w:=by
 have hin:∀ (listed:Array Bool),listed.size=ops'.size->∀ i,i∈Region.ready md (ops'.push o) (listed.push false)->(i<ops'.size/\i∈Region.ready md ops' listed)∨(i=ops'.size/\Region.ready md ops' listed=[]):=by
  intro listed hs i hi
  obtain⟨h1,x,hx,h2⟩:=mem_ready.1 hi
  have hlt:i<ops'.size+1:=by have:=(Array.getElem?_eq_some_iff.1 hx).1;simpa using this
  by_cases he:i<ops'.size
  ·refine .inl ⟨he,mem_ready.2 ⟨?_,x,?_,fun e hee hb=>?_⟩⟩
   ·simp only[Array.getD_eq_getD_getElem?,Array.getElem?_push,if_neg (show ¬i=listed.size by omega)]at h1 ⊢;exact h1
   ·rw[Array.getElem?_push,if_neg (by omega)]at hx;exact hx
   ·have hx2:ops'[i]?=some x:=by rw[Array.getElem?_push,if_neg (by omega)]at hx;exact hx
    have h3:=h2 e hee hb
    have h4:=hord i x hx2 e hee
    simp only[Array.getD_eq_getD_getElem?,Array.getElem?_push,if_neg (show ¬e.on=listed.size by omega)]at h3 ⊢;exact h3
  ·obtain rfl:i=ops'.size:=by omega
   refine .inr ⟨rfl,?_⟩
   have hxo:x=o:=by rw[Array.getElem?_push,if_pos rfl]at hx;exact (Option.some.inj hx).symm
   subst hxo
   rw[List.eq_nil_iff_forall_not_mem]
   intro j hj
   obtain⟨g1,y,hy,_⟩:=mem_ready.1 hj
   have hj':=(Array.getElem?_eq_some_iff.1 hy).1
   obtain⟨e,he1,he2,he3⟩:=hlast j hj'
   have h3:=h2 e he1 he2
   rw[he3]at h3
   simp only[Array.getD_eq_getD_getElem?,Array.getElem?_push,if_neg (show ¬j=listed.size by omega)]at h3 g1
   rw[Array.getElem?_eq_getElem (show j<listed.size by omega)]at h3 g1
   simp at h3 g1;rw[h3]at g1;cases g1
 have hfin:∀ (listed:Array Bool),listed.size=ops'.size->Region.ready md ops' listed=[]->Region.ready md (ops'.push o) ((listed.push false).setIfInBounds ops'.size true)=[]:=by
  intro listed hs hr
  rw[List.eq_nil_iff_forall_not_mem]
  intro j hj
  obtain⟨g1,y,hy,_⟩:=mem_ready.1 hj
  have hj':j<ops'.size+1:=by have:=(Array.getElem?_eq_some_iff.1 hy).1;simpa using this
  by_cases he:j<ops'.size
  ·have:=Z2 hord hs hr j he
   simp only[Array.getD_eq_getD_getElem?,Array.getElem?_setIfInBounds,Array.getElem?_push,if_neg (show ¬ops'.size=j by omega),if_neg (show ¬j=listed.size by omega)]at g1 this
   rw[Array.getElem?_eq_getElem (show j<listed.size by omega)]at g1 this
   simp at g1 this;rw[this]at g1;cases g1
  ·obtain rfl:j=ops'.size:=by omega
   simp[hs]at g1
 have hstep:∀ (fuel:Nat) (listed:Array Bool) (a:Act) (w:World),listed.size=ops'.size->Region.ready md ops' listed=[]->wpList P (ops'.push o) Q [o] a w->wpOp P (ops'.push o) Q ops'.size (wpAny P md (ops'.push o) Q fuel ((listed.push false).setIfInBounds ops'.size true)) a w:=by
  intro fuel listed a w hs hr h
  unfold wpOp
  rw[Array.getElem?_push,if_pos rfl]
  have hw:Region.wanted o (yielded (ops'.push o) a.tmps)=true:=by simp[Region.wanted,hgo]
  unfold wpList at h
  simp only[hw,if_true]at *
  have hK:∀ a w,wpList P (ops'.push o) Q [] a w->wpAny P md (ops'.push o) Q fuel ((listed.push false).setIfInBounds ops'.size true) a w:=fun a w hq=>by
   have:=hfin listed hs hr
   cases fuel with
   |zero=>exact⟨this,hq⟩
   |succ fuel=>exact⟨fun _=>hq,by rw[this];simp⟩
  rcases h with h|h
  ·exact .inl (Oper.wp_mono hK h)
  ·exact .inr h
 intro fuel
 induction fuel with
 |zero=>
  intro listed a w hs h
  obtain⟨h1,h2⟩:=h
  refine⟨fun h0=>?_,fun i hi=>?_⟩
  ·exfalso
   have:ops'.size∈Region.ready md (ops'.push o) (listed.push false):=mem_ready.2 ⟨by simp[←hs],o,by simp,fun e he _=>by
    have:=Z2 hord hs h1 e.on (hon e he)
    simp only[Array.getD_eq_getD_getElem?,Array.getElem?_push,if_neg (show ¬e.on=listed.size by have:=hon e he;omega)]at this ⊢;exact this⟩
   rw[h0]at this;cases this
  ·rcases hin listed hs i hi with⟨_,h3⟩|⟨rfl,_⟩
   ·rw[h1]at h3;cases h3
   ·exact hstep 0 listed a w hs h1 h2
 |succ fuel ih=>
  intro listed a w hs h
  obtain⟨h1,h2⟩:=h
  refine⟨fun h0=>?_,fun i hi=>?_⟩
  ·exfalso
   by_cases hr:Region.ready md ops' listed=[]
   ·have:ops'.size∈Region.ready md (ops'.push o) (listed.push false):=mem_ready.2 ⟨by simp[←hs],o,by simp,fun e he _=>by
     have:=Z2 hord hs hr e.on (hon e he)
     simp only[Array.getD_eq_getD_getElem?,Array.getElem?_push,if_neg (show ¬e.on=listed.size by have:=hon e he;omega)]at this ⊢;exact this⟩
    rw[h0]at this;cases this
   ·obtain⟨i,hi⟩:=List.exists_mem_of_ne_nil _ hr
    obtain⟨g1,x,hx,g2⟩:=mem_ready.1 hi
    have hlt:=(Array.getElem?_eq_some_iff.1 hx).1
    have:i∈Region.ready md (ops'.push o) (listed.push false):=mem_ready.2 ⟨by
     simp only[Array.getD_eq_getD_getElem?,Array.getElem?_push,if_neg (show ¬i=listed.size by omega)]at g1 ⊢;exact g1,x,by rw[Array.getElem?_push,if_neg (by omega)];exact hx,fun e he hb=>by
     have h3:=g2 e he hb
     have h4:=hord i x hx e he
     simp only[Array.getD_eq_getD_getElem?,Array.getElem?_push,if_neg (show ¬e.on=listed.size by omega)]at h3 ⊢;exact h3⟩
    rw[h0]at this;cases this
  ·rcases hin listed hs i hi with⟨hlt,h3⟩|⟨rfl,hr⟩
   ·refine JQ hg hlt (fun a w hk=>?_) (h2 i h3)
    have:=ih (listed.setIfInBounds i true) a w (by simpa using hs) hk
    rw[show (listed.push false).setIfInBounds i true=(listed.setIfInBounds i true).push false from ?_]
    ·exact this
    ·apply Array.ext_getElem?
     intro j
     simp only[Array.getElem?_setIfInBounds,Array.getElem?_push,Array.size_setIfInBounds,Array.size_push]
     by_cases e1:i=j
     ·subst e1
      simp[show i<listed.size by omega,show ¬i=listed.size by omega,show i<listed.size+1 by omega]
     ·simp[e1]
   ·exact hstep (fuel+1) listed a w hs hr (h1 hr)
end
def popB (ops':List Oper)(o:Oper):Bool:=
 ops'.all (fun x=>x.guard.isNone)&&o.guard.isNone&&((List.range ops'.length).all fun j=>match ops'[j]? with|some x=>x.after.all fun e=>decide (e.on<j)|none=>true) &&
  ((List.range ops'.length).all fun j=>o.after.any fun e=>Region.binds .any e&&(e.on==j))&&(o.after.all fun e=>decide (e.on<ops'.length))
theorem Xq {P:Program}{Q:Exit->Act->World->Prop}{S:World->Prop}{id:Nat}(ops':List Oper)(o:Oper){ops:Array Oper}{a:Act}{w:World}(hm:P.follows .mixedOrders=true)(ho:ops=(ops'++[o]).toArray)(hc:popB ops' o=true)
  (h:wpAnyH P .any ops'.toArray (PopQ Q (wpList P ops Q [o])) S ops'.length (List.replicate ops'.length false).toArray a w.drew):(Code.region id ops true).wp P Q a w:=by
 unfold popB at hc
 simp only[Bool.and_eq_true,List.all_eq_true,List.mem_range,Array.all_eq_true_iff_forall_mem,Array.any_eq_true',decide_eq_true_eq,beq_iff_eq,Option.isNone_iff_eq_none]at hc
 obtain⟨⟨⟨⟨c1,c2⟩,c3⟩,c4⟩,c5⟩:=hc
 have ho':ops=ops'.toArray.push o:=by rw[ho];simp
 have h':=wpAny_of_held _ _ _ _ h
 rw[ho']at h'
 have:=K5 (md:=.any) (ops':=ops'.toArray) (o:=o) (P:=P) (Q:=Q) (fun j x hx=>c1 x (by simpa using List.mem_of_getElem? (by simpa using hx)))
  (fun j x hx e he=>by
   have hx':ops'[j]?=some x:=by simpa using hx
   have:=c3 j (List.getElem?_eq_some_iff.1 hx').1
   rw[hx']at this
   simp only[Array.all_eq_true_iff_forall_mem,decide_eq_true_eq]at this
   exact this e he)
  (fun j hj=>by
   obtain⟨e,h1,h2⟩:=c4 j (by simpa using hj)
   exact⟨e,h1,h2.1,h2.2⟩)
  (fun e he=>by simpa using c5 e he) c2 ops'.length (List.replicate ops'.length false).toArray a w.drew (by simp) h'
 refine wp_region_any hm ?_
 rw[ho']
 have e1:(ops'.toArray.push o).size=ops'.length+1:=by simp
 have e2:Array.replicate (ops'.toArray.push o).size false=(List.replicate ops'.length false).toArray.push false:=by
  apply Array.ext'
  rw[e1];simp[List.replicate_succ']
 rw[e2,e1]
 exact this
def popL (n:Nat)(l:List Oper):Bool:=match l.drop n with|[o]=>((l.take n).length==n)&&popB (l.take n) o|_=>false
theorem QU {P:Program}{Q:Exit->Act->World->Prop}{S:World->Prop}{id:Nat}(n:Nat){l:List Oper}{a:Act}{w:World}(hm:P.follows .mixedOrders=true)(hc:popL n l=true)
  (h:wpAnyH P .any (l.take n).toArray (PopQ Q (wpList P l.toArray Q (l.drop n))) S n (List.replicate n false).toArray a w.drew):(Code.region id l.toArray true).wp P Q a w:=by
 unfold popL at hc
 split at hc
 ·rename_i o ho
  simp only[Bool.and_eq_true,beq_iff_eq]at hc
  refine Xq (S:=S) (l.take n) o hm (by rw[←ho,List.take_append_drop]) hc.2 ?_
  rw[hc.1,←ho]
  exact h
 ·cases hc
mutual
def Tr.lvs:Tr->List ByteArray->List Lf
 |.mk es ks,p=>es.map (fun e=>(p,e))++Tr.lvsL ks p
def Tr.lvsL:List (ByteArray×Tr)->List ByteArray->List Lf
 |[],_=>[]
 |(k,t) :: ks,p=>t.lvs (p++[k])++Tr.lvsL ks p
end
mutual
theorem lvs_len:∀ (t:Tr) (p:List ByteArray),(t.lvs p).length<=t.sz
 |.mk es ks,p=>by rw[Tr.lvs,Tr.sz];have:=lvsL_len ks p;simp;omega
theorem lvsL_len:∀ (ks:List (ByteArray×Tr)) (p:List ByteArray),(Tr.lvsL ks p).length<=Tr.szL ks
 |[],p=>by simp[Tr.lvsL]
 |(k,t) :: ks,p=>by rw[Tr.lvsL,Tr.szL];have:=lvs_len t (p++[k]);have:=lvsL_len ks p;simp;omega
end
theorem K7 {ks:List Kd}{k:Nat}{x:Kd}(h:ks[k]?=some x)(p:List ByteArray):Tr.lvsL (ks.take (k+1)) p=Tr.lvsL (ks.take k) p++x.2.lvs (p++[x.1]):=by
 induction ks generalizing k with
 |nil=>simp at h
 |cons y ks ih=>
  obtain⟨yk,yt⟩:=y
  cases k with
  |zero=>simp at h;subst h;simp[Tr.lvsL]
  |succ k=>simp only[List.take_succ_cons];rw[Tr.lvsL,Tr.lvsL,ih (by simpa using h),List.append_assoc]
theorem XM (t:Tr):∀ (p:List ByteArray) (okp:Nat->Prop) (w:World) (ve vk vp:Value),t.rd w w.heap.size ve vk->SlA w okp 1 StE vp p->(∀ b,okp b->b<w.heap.size)->p.length+t.sz<=100000 ->
  Calls Tryz.prog 79 #[.agg #[ve,vk],vp] w (RetD w 91 5 LfA okp (t.lvs p)):=by
 induction t using Tr.ind with
 |h es ks ih=>
 intro p okp w ve vk vp h hp hok0 hN
 rw[QB]at h
 obtain⟨⟨A1,n,rfl,b1,b2,b3⟩,⟨A2,m,rfl,c1,c2,c3⟩⟩:=h
 obtain⟨A5,n5,rfl,p1,p2,p3⟩:=hp
 have hp:SlA w okp 1 StE (.slice A5 p.length n5) p:=⟨A5,n5,rfl,p1,p2,p3⟩
 have hpP:SlP w w.heap.size 1 StE (.slice A5 p.length n5) p:=hp.up (fun _ _=>rfl) hok0 fun _ _ _ h=>h
 unfold Big at b2 c2
 rw[Tr.sz]at hN
 have hkl:=ZA ks
 clear p3 p2
 go_enter Tryz.func79,Tryz.ntmps79
 go_wp2_with fail
 go_loopw [5,12] (fun v i wr=>∃ k:Nat,k<=es.length/\i=.int .i64 k/\OwnD wr (w.heap.size+1) 91 5 LfA (fun b=>okp b∨w.heap.size<=b) v ((es.take k).map fun e=>(p,e)) /\
   Below (w.heap.size+1) (w.alloc (.cells #[.slice A1 es.length n,.slice A2 ks.length m] 25)) wr) (fun _ i _=>es.length-(intOf i).toNat)
 case atStart=>exact⟨0,Nat.zero_le _,rfl,OwnD.nil,Below.refl _ _⟩
 case round=>
  obtain⟨k,hk,rfl,hown,hb⟩:=hrel
  have hsz:=hb.size
  simp only[World.size_alloc]at hsz
  have hB0:Below w.heap.size w wr:=((Below.refl _ w).alloc (Nat.le_refl _) _).trans (hb.mono (by omega))
  have hw0:wr.cell? ⟨w.heap.size,0,none⟩=some (.slice A1 es.length n):=by rw[hb.cell (p:=⟨w.heap.size,0,none⟩) (by simp)];simp
  have hw1:wr.cell? ⟨w.heap.size,1,none⟩=some (.slice A2 ks.length m):=by rw[hb.cell (p:=⟨w.heap.size,1,none⟩) (by simp)];simp
  by_cases hlt:k<es.length
  ·obtain⟨x,hx⟩:∃ x,es[k]?=some x:=⟨_,List.getElem?_eq_getElem hlt⟩
   obtain⟨b,off,rfl,hbB,hc⟩:=b3 (by rintro rfl;simp at hlt)
   obtain⟨cs,⟨rfl,hok⟩,_,hu⟩:=hc k _ hx
   have e0:wr.cell? ⟨b,off+k*4,none⟩=some (.int .i64 x.dc):=(hB0.cell hbB).trans (hu 0 _ rfl)
   have e1:wr.cell? ⟨b,off+k*4+1,none⟩=some (.int .i64 x.n):=(hB0.cell hbB).trans (hu 1 _ rfl)
   have e2:wr.cell? ⟨b,off+k*4+2,none⟩=some (.string x.s):=(hB0.cell hbB).trans (hu 2 _ rfl)
   have e3:wr.cell? ⟨b,off+k*4+3,none⟩=some (.int .i64 x.v):=(hB0.cell hbB).trans (hu 3 _ rfl)
   have HX:Hid (((es.take (k+1)).map fun e=>(p,e))=((es.take k).map fun e=>(p,e))++[(p,x)]):=by
    unfold Hid;rw[List.take_add_one,hx];simp
   have HL:Hid (((es.take k).map fun e=>(p,e)).length + [(p,x)].length<=Few):=by unfold Hid Few;simp;omega
   have HO:Hid (∀ o,SlP (wr.alloc (.cells [.slice A5 p.length n5,.int .i64 x.dc,.int .i64 x.n,.string x.s,.int .i64 x.v].toArray o)) (wr.alloc (.cells [.slice A5 p.length n5,.int .i64 x.dc,.int .i64 x.n,.string x.s,.int .i64 x.v].toArray o)).heap.size 5 (LfA (wr.alloc (.cells [.slice A5 p.length n5,.int .i64 x.dc,.int .i64 x.n,.string x.s,.int .i64 x.v].toArray o)) (fun b=>(okp b∨w.heap.size<=b)/\b<(wr.alloc (.cells [.slice A5 p.length n5,.int .i64 x.dc,.int .i64 x.n,.string x.s,.int .i64 x.v].toArray o)).heap.size/\u5.ownBlock≠some b)) (.slice (some ⟨wr.heap.size,0,none⟩) 1 1) [(p,x)]):=fun o=>by
    rw[World.size_alloc]
    refine SlP.one (E:=LfA _ _) (x:=(p,x)) ⟨A5,n5,rfl,?_,hok⟩ rfl o rfl
    refine (hp.up (fun b hb'=>((hB0.alloc (by omega) _).block b (hok0 b hb'))) (fun b hb'=>⟨.inl hb',by have h1:=hok0 b hb';omega,fun e=>?_⟩) fun _ _ _ h=>h)
    have:=(OwnP.lt hown b e).1;have h1:=hok0 b hb';omega
   clear hu hx hc b3 hok
   go_wp2_with (at_builtin;with_reducible refine Yj rfl (.tmp 15) (.tmp 23) _ rfl LfA.mon qQ0 (by decide) (by decide) rfl (hown.grow LfA.mon ((Below.refl _ _).alloc (Nat.le_refl _) _)) rfl (HO.out _) HL.out (by rw[World.size_alloc];omega) ?_;intro v1 w1 hown1 hb1 _ _)
   go_roundw
   case rel=>exact⟨k+1,by omega,by go_num,by rw[HX.out];exact hown1,(hb.alloc (by omega) _).trans hb1⟩
   case measure=>simp[intOf];omega
  ·obtain rfl:k=es.length:=by omega
   rw[List.take_of_length_le (Nat.le_refl _)]at hown
   go_wp2_with fail
   clear hw0 hw1 hB0 hsz
   obtain⟨wo,rfl⟩:∃ wo:World,wo=wr:=⟨_,rfl⟩
   go_loopw [5,29] (fun v i wr=>∃ k:Nat,k<=ks.length/\i=.int .i64 k/\OwnD wr (w.heap.size+1) 91 5 LfA (fun b=>okp b∨w.heap.size<=b) v (es.map (fun e=>(p,e))++Tr.lvsL (ks.take k) p) /\
     Below (w.heap.size+1) (w.alloc (.cells #[.slice A1 es.length n,.slice A2 ks.length m] 25)) wr) (fun _ i _=>ks.length-(intOf i).toNat)
   case atStart=>exact⟨0,Nat.zero_le _,rfl,by simpa[Tr.lvsL] using hown,hb⟩
   case round=>
    clear hown hb
    obtain⟨k,hk,rfl,hown,hb⟩:=hrel
    have hsz:=hb.size
    simp only[World.size_alloc]at hsz
    have hB0:Below w.heap.size w wr:=((Below.refl _ w).alloc (Nat.le_refl _) _).trans (hb.mono (by omega))
    have hw1:wr.cell? ⟨w.heap.size,1,none⟩=some (.slice A2 ks.length m):=by rw[hb.cell (p:=⟨w.heap.size,1,none⟩) (by simp)];simp
    by_cases hlt:k<ks.length
    ·obtain⟨⟨key,t⟩,hx⟩:∃ x,ks[k]?=some x:=⟨_,List.getElem?_eq_getElem hlt⟩
     obtain⟨b,off,rfl,hbB,hc⟩:=c3 (by rintro rfl;simp at hlt)
     obtain⟨cs,⟨ve',vk',rfl,hkb,hrd⟩,_,hu⟩:=hc k _ hx
     obtain⟨A3,n3,A4,n4,rfl,rfl⟩:=Qk hrd
     have e0:wr.cell? ⟨b,off+k*3,none⟩=some (.string key):=(hB0.cell hbB).trans (hu 0 _ rfl)
     have hmem:(key,t)∈ks:=List.mem_of_getElem? hx
     have hsm:=Xn hmem
     have hst:=V3 hx
     have hsl:=qZt (ks:=ks) (k+1)
     have HX:Hid (es.map (fun e=>(p,e))++Tr.lvsL (ks.take (k+1)) p=es.map (fun e=>(p,e))++Tr.lvsL (ks.take k) p++t.lvs (p++[key])):=by unfold Hid;rw[K7 hx,List.append_assoc]
     have HL:Hid ((es.map (fun e=>(p,e))++Tr.lvsL (ks.take k) p).length+(t.lvs (p++[key])).length<=Few):=by
      have h1:=lvsL_len (ks.take k) p
      have h2:=lvs_len t (p++[key])
      unfold Hid Few;simp;simp at hst;omega
     have HC1:Hid (∀ w',Below w.heap.size w w'->w'.cell? ⟨b,off+k*3+1,none⟩=some (.slice A3 t.es.length n3)/\w'.cell? ⟨b,off+k*3+2,none⟩=some (.slice A4 t.ks.length n4)):=fun w' hb'=>⟨(hb'.cell hbB).trans (hu 1 _ rfl),(hb'.cell hbB).trans (hu 2 _ rfl)⟩
     have HR:Hid (∀ w',Below w.heap.size w w'->t.rd w' w'.heap.size (.slice A3 t.es.length n3) (.slice A4 t.ks.length n4)):=fun w' hb'=>Qi hb' hb'.size _ _ _ hrd
     have HP:Hid (SlP wr wr.heap.size 1 StE (.slice A5 p.length n5) p):=hpP.imp hB0 (by omega) fun _ _ _ h=>h
     have HS:Hid (∀ w',Below wr.heap.size wr w'->w'.cell? ⟨w.heap.size,1,none⟩=some (.slice (some ⟨b,off,none⟩) ks.length m)/\w'.cell? ⟨b,off+k*3,none⟩=some (.string key)):=fun w' hb'=>⟨(hb'.cell (p:=⟨w.heap.size,1,none⟩) (by exact hsz)).trans hw1,(hb'.cell (p:=⟨b,off+k*3,none⟩) (by show b<_;omega)).trans e0⟩
     have hpl:p.length<=100000:=by omega
     have hts:p.length+1+t.sz<=100000:=by omega
     clear hu hx hc c3 hrd hst hsl
     go_upto_region 10 with (fail)
     go_cut [8] (fun vq wc=>OwnP wc wr.heap.size 9 1 StE vq (p++[key])/\Below wr.heap.size wr wc)
     case first=>
      go_region_held3 (fun w'=>w'.cell? ⟨w.heap.size,1,none⟩=some (.slice (some ⟨b,off,none⟩) ks.length m)/\w'.cell? ⟨b,off+k*3,none⟩=some (.string key))
       (first|go_keep|exact HS.out _ hq42|exact HS.out _ hq34|exact HS.out _ (hq34.alloc (by omega) _))
       (first
        |(refine QZ (v:=.slice (some ⟨_,0,none⟩) 0 0) rfl (.tmp 32) (.tmp 33) _ rfl eiStr (by decide) (by decide) (fun _ _ h=>StE.one h) rfl (OwnP.empty (base:=wr.heap.size) (by first|exact Qf rfl|exact (Qh (by simp)).trans (Qf rfl)|exact Qf (by simp)) (by omega)) rfl (HP.out.imp (by go_grown) (Nat.le_refl _) fun _ _ _ h=>h) (by unfold Few;simp;omega) (by first|(simp;done)|(simp;omega)) ?_;intro v34 w34 hown34 hb34 hg34;have hs34:=hb34.size;simp only[World.size_drew,World.size_alloc]at hs34;have hq34:Below wr.heap.size wr w34:=Below.trans (by go_grown) hb34)
        |(refine QZ rfl (.tmp 34) (.tmp 41) _ rfl eiStr (by decide) (by decide) (fun _ _ h=>StE.one h) rfl (by first|exact hown34.alloc _|exact hown34) rfl (by first|exact SlP.one (x:=key) (cs:=[.string key]) ⟨rfl,hkb⟩ rfl _ rfl|exact SlP.at1 (B:=w34.heap.size) ((World.cell?_of_block (hg34.block _ (by simp only[World.size_drew,World.size_alloc];omega) (by simp[Value.ownBlock]))).trans (by first|(simp;done)|(rw[World.cell?_drew,World.cell?_alloc_at _ _ _ _ (by simp)];rfl))) hkb (by omega)) (by unfold Few;simp;omega) (by first|(simp;omega)|omega) ?_;intro v42 w42 hown42 hb42 hg42;have hq42:Below wr.heap.size wr w42:=(by first|exact hq34.trans hb42|exact (hq34.alloc (by omega) _).trans hb42)))
      all_goals
       go_wp2_with fail
       go_meet
       case rel=>exact⟨by simpa using hown42,hq42⟩
     case rest=>
      obtain⟨hvq,hbq⟩:=hcut
      have hsq:=hbq.size
      have hBq:Below w.heap.size w wc:=hB0.trans (hbq.mono (by omega))
      obtain⟨hw2,_⟩:=HS.out wc hbq
      obtain⟨e1,e2⟩:=HC1.out wc hBq
      have HRq:=hid (HR.out wc hBq)
      have HVq:Hid (SlA wc (fun b=>wr.heap.size<=b/\b<wc.heap.size) 1 StE u8 (p++[key])):=(hvq.sla (by unfold Big;simp;omega)).up (fun _ _=>rfl) (fun _ h=>⟨h.1,h.2.1⟩) fun _ _ _ h=>h
      clear hvq hw1 e0
      go_wp2_with fail
      refine (ih key t hmem (p++[key]) _ wc _ _ u8 HRq.out HVq.out (fun _ h=>h.2) (by simp;omega)).mono ?_
      rintro e w2 ⟨v2,rfl,hv2,hb2⟩
      have hs2:=hb2.size
      have HO2:Hid (SlP w2 w2.heap.size 5 (LfA w2 (fun b=>(okp b∨w.heap.size<=b)/\b<w2.heap.size/\u5.ownBlock≠some b)) v2 (t.lvs (p++[key]))):=by
       refine (hv2.sl LfA.mon (by have:=lvs_len t (p++[key]);unfold Big;omega)).imp (Below.refl _ _) (Nat.le_refl _) fun x _ cs hx=>LfA.mon.up (fun _ _=>rfl) (fun b hb=>?_) hx
       have h1:wr.heap.size<=b:=by rcases hb.1 with h|h<;>omega
       refine⟨.inr (by omega),hb.2,fun e=>?_⟩
       have:=(OwnD.lt hown b e).2
       omega
      clear hv2
      go_wp2_with (at_builtin;go_loud (refine Yj rfl (.tmp 43) (.tmp 51) _ rfl LfA.mon qQ0 (by decide) (by decide) rfl (hown.grow LfA.mon (hbq.trans (hb2.mono hsq))) rfl HO2.out HL.out (by omega) ?_);intro v1 w1 hown1 hb1 _ _)
      go_roundw
      case rel=>exact⟨k+1,by omega,by go_num,by rw[HX.out];exact hown1,((hb.trans (hbq.mono (by omega))).trans (hb2.mono (by omega))).trans hb1⟩
      case measure=>simp[intOf];omega
    ·obtain rfl:k=ks.length:=by omega
     rw[List.take_of_length_le (Nat.le_refl _)]at hown
     go_wp2_with fail
     go_ret
     exact⟨_,rfl,by rw[Tr.lvs];exact hown.mono (by omega),((Below.refl _ w).alloc (Nat.le_refl _) _).trans (hb.mono (by omega))⟩
mutual
def Tr.dots:Tr->List Dt
 |.mk es ks=>es.map En.dot++Tr.dotsL ks
def Tr.dotsL:List (ByteArray×Tr)->List Dt
 |[]=>[]
 |(_,t) :: ks=>t.dots++Tr.dotsL ks
end
theorem Ks {ks:List Kd}{k:Nat}{x:Kd}(h:ks[k]?=some x):Tr.dotsL (ks.take (k+1))=Tr.dotsL (ks.take k)++x.2.dots:=by
 induction ks generalizing k with
 |nil=>simp at h
 |cons y ks ih=>
  obtain⟨yk,yt⟩:=y
  cases k with
  |zero=>simp at h;subst h;simp[Tr.dotsL]
  |succ k=>simp only[List.take_succ_cons];rw[Tr.dotsL,Tr.dotsL,ih (by simpa using h),List.append_assoc]
theorem Vf {ks:List Kd}(k:Nat):(Tr.dotsL (ks.take k)).length<=(Tr.dotsL ks).length:=by
 induction ks generalizing k with
 |nil=>simp
 |cons y ks ih=>
  obtain⟨yk,yt⟩:=y
  cases k with
  |zero=>simp[Tr.dotsL]
  |succ k=>simp only[List.take_succ_cons];rw[Tr.dotsL,Tr.dotsL];have:=ih k;simp;omega
theorem V6 (t:Tr):∀ (w:World) (ve vk:Value),t.rd w w.heap.size ve vk->t.dots.length<=1000000 ->
  Calls Tryz.prog 114 #[.agg #[ve,vk]] w (RetO w 78 2 (fun _=>DtE) t.dots):=by
 induction t using Tr.ind with
 |h es ks ih=>
 intro w ve vk h hN
 rw[QB]at h
 obtain⟨⟨A1,n,rfl,b1,b2,b3⟩,⟨A2,m,rfl,c1,c2,c3⟩⟩:=h
 unfold Big at b2 c2
 rw[Tr.dots,List.length_append,List.length_map]at hN
 go_enter Tryz.func114,Tryz.ntmps114
 go_wp2_with fail
 go_loopw [3,11] (fun v i wr=>∃ k:Nat,k<=es.length/\i=.int .i64 k/\OwnP wr (w.heap.size+1) 78 2 DtE v ((es.take k).map En.dot) /\
   Below (w.heap.size+1) (w.alloc (.cells #[.slice A1 es.length n,.slice A2 ks.length m] 25)) wr) (fun _ i _=>es.length-(intOf i).toNat)
 case atStart=>exact⟨0,Nat.zero_le _,rfl,OwnP.nil,Below.refl _ _⟩
 case round=>
  obtain⟨k,hk,rfl,hown,hb⟩:=hrel
  have hsz:=hb.size
  simp only[World.size_alloc]at hsz
  have hl1:((es.take k).map En.dot).length=k:=by simp;omega
  by_cases hlt:k<es.length
  ·obtain⟨x,hx⟩:∃ x,es[k]?=some x:=⟨_,List.getElem?_eq_getElem hlt⟩
   obtain⟨b,off,rfl,hbB,hc⟩:=b3 (by rintro rfl;simp at hlt)
   obtain⟨cs,⟨rfl,hok⟩,_,hu⟩:=hc k _ hx
   have hbo:∀ o,wr.cell? ⟨b,o,none⟩=w.cell? ⟨b,o,none⟩:=fun o=>(hb.cell (p:=⟨b,o,none⟩) (by simp;omega)).trans (World.cell?_alloc_lt _ _ _ hbB)
   have e0:wr.cell? ⟨b,off+k*4,none⟩=some (.int .i64 x.dc):=(hbo _).trans (hu 0 _ rfl)
   have e1:wr.cell? ⟨b,off+k*4+1,none⟩=some (.int .i64 x.n):=(hbo _).trans (hu 1 _ rfl)
   have e2:wr.cell? ⟨b,off+k*4+2,none⟩=some (.string x.s):=(hbo _).trans (hu 2 _ rfl)
   have e3:wr.cell? ⟨b,off+k*4+3,none⟩=some (.int .i64 x.v):=(hbo _).trans (hu 3 _ rfl)
   have hd:x.dot.Ok:=⟨hok.dc,hok.n⟩
   have HX:Hid ((es.take (k+1)).map En.dot=(es.take k).map En.dot++[x.dot]):=by
    unfold Hid;rw[List.take_add_one,hx];simp
   have HL:Hid (((es.take k).map En.dot).length + [x.dot].length<=Few):=by unfold Hid Few;rw[hl1];simp;omega
   clear hu hbo hx hc b3 hok hl1
   have HB:Hid (w.heap.size+1<=wr.heap.size+1+1):=by unfold Hid;omega
   go_wp2_with (at_builtin;go_loud (refine Qj rfl (.tmp 15) (.tmp 18) _ rfl eiDot (by decide) (by decide) (fun _ _ h=>h.one) rfl ((hown.alloc _).alloc _) rfl (SlP.one (x:=x.dot) (cs:=[.int .i64 x.dc,.int .i64 x.n]) ⟨rfl,hd⟩ rfl _ (World.size_alloc _ _).symm) HL.out (by rw[World.size_alloc,World.size_alloc];exact HB.out) ?_);intro v1 w1 hown1 hb1 _)
   go_roundw
   case rel=>
    refine⟨k+1,by omega,by go_num,by rw[HX.out];exact hown1,((hb.alloc (by omega) _).alloc (by simp;omega) _).trans hb1⟩
   case measure=>simp[intOf];omega
  ·obtain rfl:k=es.length:=by omega
   clear hl1
   rw[List.take_of_length_le (Nat.le_refl _)]at hown
   have hw1:wr.cell? ⟨w.heap.size,1,none⟩=some (.slice A2 ks.length m):=by rw[hb.cell (p:=⟨w.heap.size,1,none⟩) (by simp)];simp
   go_wp2_with fail
   obtain⟨wo,rfl⟩:∃ wo:World,wo=wr:=⟨_,rfl⟩
   go_loopw [3,24] (fun v i wr=>∃ k:Nat,k<=ks.length/\i=.int .i64 k/\OwnP wr (w.heap.size+1) 78 2 DtE v (es.map En.dot++Tr.dotsL (ks.take k)) /\
     Below (w.heap.size+1) (w.alloc (.cells #[.slice A1 es.length n,.slice A2 ks.length m] 25)) wr) (fun _ i _=>ks.length-(intOf i).toNat)
   case atStart=>exact⟨0,Nat.zero_le _,rfl,by simpa[Tr.dotsL] using hown,hb⟩
   case round=>
    obtain⟨k,hk,rfl,hown,hb⟩:=hrel
    clear hw1
    have hsz:=hb.size
    simp only[World.size_alloc]at hsz
    by_cases hlt:k<ks.length
    ·obtain⟨⟨key,t⟩,hx⟩:∃ x,ks[k]?=some x:=⟨_,List.getElem?_eq_getElem hlt⟩
     obtain⟨b,off,rfl,hbB,hc⟩:=c3 (by rintro rfl;simp at hlt)
     obtain⟨cs,⟨ve',vk',rfl,hkb,hrd⟩,_,hu⟩:=hc k _ hx
     obtain⟨A3,n3,A4,n4,rfl,rfl⟩:=Qk hrd
     have hbo:∀ o,wr.cell? ⟨b,o,none⟩=w.cell? ⟨b,o,none⟩:=fun o=>(hb.cell (p:=⟨b,o,none⟩) (by simp;omega)).trans (World.cell?_alloc_lt _ _ _ hbB)
     have e0:wr.cell? ⟨b,off+k*3,none⟩=some (.string key):=(hbo _).trans (hu 0 _ rfl)
     have e1:wr.cell? ⟨b,off+k*3+1,none⟩=some (.slice A3 t.es.length n3):=(hbo _).trans (hu 1 _ rfl)
     have e2:wr.cell? ⟨b,off+k*3+2,none⟩=some (.slice A4 t.ks.length n4):=(hbo _).trans (hu 2 _ rfl)
     have hmem:(key,t)∈ks:=List.mem_of_getElem? hx
     have hB0:Below w.heap.size w wr:=((Below.refl _ w).alloc (Nat.le_refl _) _).trans (hb.mono (by omega))
     have HR:Hid (∀ o,t.rd (wr.alloc o) (wr.alloc o).heap.size (.slice A3 t.es.length n3) (.slice A4 t.ks.length n4)):=fun o=>Qi (hB0.alloc (by omega) _) (by simp;omega) _ _ _ hrd
     have hdl:=Ks hx
     have hln:=Vf (ks:=ks) (k+1)
     have HX:Hid (es.map En.dot++Tr.dotsL (ks.take (k+1))=es.map En.dot++Tr.dotsL (ks.take k)++t.dots):=by unfold Hid;rw[hdl,List.append_assoc]
     have HL:Hid ((es.map En.dot++Tr.dotsL (ks.take k)).length+t.dots.length<=Few):=by
      unfold Hid Few;rw[hdl]at hln;simp at hln ⊢;omega
     have hu1:t.dots.length<=1000000:=by have:=HL.out;unfold Few at this;omega
     clear hu hbo hx hc c3 hrd hdl hln
     go_wp2_with (first
      |(go_at_call 114;refine (ih key t hmem _ _ _ (HR.out _) hu1).mono ?_;rintro e w2 ⟨v2,rfl,hv2,hb2⟩;have hs2:=hb2.size;simp only[World.size_alloc]at hs2)
      |(at_builtin;refine Qj rfl (.tmp 28) (.tmp 31) _ rfl eiDot (by decide) (by decide) (fun _ _ h=>h.one) rfl ((hown.alloc _).grow hb2) rfl (hv2.sl (by unfold Big;omega)) HL.out (by omega) ?_;intro v1 w1 hown1 hb3 _))
     go_roundw
     case rel=>
      refine⟨k+1,by omega,by go_num,by rw[HX.out];exact hown1,((hb.alloc (by omega) _).trans (hb2.mono (by simp;omega))).trans hb3⟩
     case measure=>simp[intOf];omega
    ·obtain rfl:k=ks.length:=by omega
     rw[List.take_of_length_le (Nat.le_refl _)]at hown
     go_wp2_with fail
     go_ret
     have hz:=hown.mono (Nat.le_succ w.heap.size)
     refine⟨_,rfl,by rw[Tr.dots];exact hz,((Below.refl _ w).alloc (Nat.le_refl _) _).trans (hb.mono (by omega))⟩
mutual
def Tr.dep:Tr->Nat|.mk _ ks=>Tr.depL ks+1
def Tr.depL:List (ByteArray×Tr)->Nat|[]=>0|(_,t) :: ks=>max t.dep (Tr.depL ks)
end
theorem Vm:∀ {ks:List Kd}{k:ByteArray}{t:Tr},(k,t)∈ks->t.dep<=Tr.depL ks
 |(k',t') :: ks,k,t,h=>by
  rw[Tr.depL]
  rcases List.mem_cons.1 h with e|e
  ·cases e;exact Nat.le_max_left _ _
  ·exact Nat.le_trans (Vm e) (Nat.le_max_right _ _)
def Qv (ls:Nat->List (Int×Int))(k:Nat):List Sp:=(List.range k).flatMap fun (dc:Nat)=>Qr (dc:Int) (ls dc)
theorem QW (ls:Nat->List (Int×Int))(k:Nat):Qv ls (k+1)=Qv ls k++Qr (k:Int) (ls k):=by
 unfold Qv;rw[List.range_succ,List.flatMap_append];simp
theorem Y7 (ls:Nat->List (Int×Int))(n:Nat)(h:∀ i,i<4->(ls i).length<=n):∀ k,k<=4->(Qv ls k).length<=k*n
 |0,_=>by simp[Qv]
 |k+1,hk=>by
  rw[QW,List.length_append,Nat.add_mul]
  have:=Y7 ls n h k (by omega)
  have h2:=h k (by omega)
  unfold Qr;rw[List.length_map];omega
theorem XV (ls:Nat->List (Int×Int))(vs:Nat->Value)(w:World)(h:∀ i,i<4->SlP w w.heap.size 2 RuE (vs i) (ls i))(hN:∀ i,i<4->(ls i).length<=200000) :
  Calls Tryz.prog 134 #[.agg #[vs 0,vs 1,vs 2,vs 3]] w (RetO w 45 3 (fun _=>SpE) (Qv ls 4)):=by
 obtain⟨A0,m0,g0,_⟩:=h 0 (by omega)
 obtain⟨A1,m1,g1,_⟩:=h 1 (by omega)
 obtain⟨A2,m2,g2,_⟩:=h 2 (by omega)
 obtain⟨A3,m3,g3,_⟩:=h 3 (by omega)
 have G0:=hid g0
 have G1:=hid g1
 have G2:=hid g2
 have G3:=hid g3
 have H:=hid h
 simp only[g0,g1,g2,g3]
 clear g0 g1 g2 g3 h
 go_enter Tryz.func134,Tryz.ntmps134
 go_wp2_with fail
 go_loopw [3,9] (fun v i wr=>∃ k:Nat,k<=4/\i=.int .i64 k/\OwnP wr (w.heap.size+1) 45 3 SpE v (Qv ls k)/\Below w.heap.size w wr) (fun _ i _=>4-(intOf i).toNat)
 case atStart=>exact⟨0,Nat.zero_le _,rfl,OwnP.nil,(Below.refl _ _).alloc (Nat.le_refl _) _⟩
 case round=>
  obtain⟨k,hk,rfl,hown,hb⟩:=hrel
  have hsz:=hb.size
  by_cases hlt:k<4
  ·obtain⟨A,n,gv,b1,b2,b3⟩:=H.out k hlt
   have hNk:=hN k hlt
   have hidx:∀ w,(Instr.index 162 (.agg #[.slice A0 (ls 0).length m0,.slice A1 (ls 1).length m1,.slice A2 (ls 2).length m2,.slice A3 (ls 3).length m3]) (.int .i64 (k:Int))).run Tryz.prog w=.ok (.slice A (ls k).length n) w:=fun w=>by
    rw[←gv]
    match k,hlt with
    |0,_=>rw[G0.out];rfl
    |1,_=>rw[G1.out];rfl
    |2,_=>rw[G2.out];rfl
    |3,_=>rw[G3.out];rfl
   have hkl:decide ((k:Int)<4)=true:=by simp;omega
   have HK:=hid (QW ls k)
   have hwl:=Y7 ls 200000 hN k hk
   have hwl2:(Qv ls k).length<=600000:=by omega
   clear gv hwl
   unfold Big at b2
   go_wp2_with fail
   obtain⟨wo,rfl⟩:∃ wo:World,wo=wr:=⟨_,rfl⟩
   go_loopw [3,15] (fun v i wr=>∃ j:Nat,j<=(ls k).length/\i=.int .i64 j/\OwnP wr (w.heap.size+1) 45 3 SpE v (Qv ls k++Qr (k:Int) ((ls k).take j))/\Below w.heap.size w wr) (fun _ i _=>(ls k).length-(intOf i).toNat)
   case atStart=>exact⟨0,Nat.zero_le _,rfl,by simpa[Qr] using hown,hb⟩
   case round=>
    obtain⟨j,hj,rfl,hown,hb⟩:=hrel
    have hsz:=hb.size
    have hsz1:w.heap.size+1<=wr.heap.size+1:=by omega
    by_cases hjl:j<(ls k).length
    ·obtain⟨x,hx⟩:∃ x,(ls k)[j]?=some x:=⟨_,List.getElem?_eq_getElem hjl⟩
     obtain⟨b,off,rfl,hbB,hc⟩:=b3 (by intro e;rw[e]at hjl;simp at hjl)
     obtain⟨cs,⟨rfl,hok⟩,_,hu⟩:=hc j _ hx
     have e0:wr.cell? ⟨b,off+j*2,none⟩=some (.int .i64 x.1):=(hb.cell hbB).trans (hu 0 _ rfl)
     have e1:wr.cell? ⟨b,off+j*2+1,none⟩=some (.int .i64 x.2):=(hb.cell hbB).trans (hu 1 _ rfl)
     have HX:Hid (Qv ls k++Qr (k:Int) ((ls k).take (j+1))=(Qv ls k++Qr (k:Int) ((ls k).take j))++[⟨k,x.1,x.2⟩]):=by unfold Hid Qr;rw[QS hx,List.map_append,List.append_assoc];rfl
     have HL:Hid ((Qv ls k++Qr (k:Int) ((ls k).take j)).length + [(⟨k,x.1,x.2⟩:Sp)].length<=Few):=by
      unfold Hid Few Qr;simp;omega
     have J0:Hid (SpE ⟨k,x.1,x.2⟩ [.int .i64 (k:Int),.int .i64 x.1,.int .i64 x.2]):=⟨rfl,⟨by show _<=(k:Int);omega,by show (k:Int)<=_;omega⟩,hok.1,hok.2⟩
     clear hu hx hc b3 hok
     go_wp2_with (at_builtin;go_loud ((refine Qj rfl (.tmp 19) (.tmp 26) _ rfl Yu (by decide) (by decide) (fun _ _ h=>h.one) rfl ((hown.alloc _).alloc _) rfl (SlP.one J0.out rfl _ (by simp)) HL.out (by rw[World.size_alloc,World.size_alloc];omega) ?_);intro v1 w1 hown1 hb1 _))
     go_roundw
     case rel=>exact⟨j+1,by omega,by go_num,by rw[HX.out];exact hown1,(((hb.alloc hsz _).alloc (by rw[World.size_alloc];omega) _).trans (hb1.mono (by omega)))⟩
     case measure=>simp[intOf];omega
    ·obtain rfl:j=(ls k).length:=by omega
     rw[List.take_of_length_le (Nat.le_refl _)]at hown
     go_wp2_with fail
     go_roundw
     case rel=>exact⟨k+1,by omega,by go_num,by rw[HK.out];exact hown,hb⟩
     case measure=>simp[intOf];omega
  ·obtain rfl:k=4:=by omega
   go_wp2_with fail
   go_ret
   exact⟨_,rfl,hown.mono (by omega),hb⟩
def hasC (c:List Sp)(d:Dt):Bool:=d.right&&hasL (partL c d.dc) d.n
mutual
theorem room_sz:∀ (t:Tr) (left deep:Int),0<=t.room left deep->(t.sz:Int)+t.room left deep<=left
 |.mk es ks,left,deep,h=>by
  rw[Tr.room]at h ⊢
  have:=roomL_sz ks _ deep h
  rw[Tr.sz]
  push_cast
  omega
theorem roomL_sz:∀ (ks:List (ByteArray×Tr)) (left deep:Int),0<=Tr.roomL ks left deep->(Tr.szL ks:Int)-ks.length+Tr.roomL ks left deep<=left
 |[],left,deep,h=>by rw[Tr.roomL]at h ⊢;simp[Tr.szL]
 |(k,t) :: ks,left,deep,h=>by
  rw[Tr.roomL]at h ⊢
  split at h
  ·omega
  ·rename_i hc
   rw[if_neg hc]
   have h1:=roomL_sz ks _ deep h
   have hs:=ZA ks
   by_cases h2:0<=t.room left (deep-1)
   ·have h3:=room_sz t left (deep-1) h2
    rw[Tr.szL];simp only[List.length_cons];push_cast;omega
   ·omega
end
def smlB (t:Tr)(n:Int):Bool:=decide (0<=t.room n 8)
theorem qZv {t:Tr}{n:Int}(h:smlB t n=true):(t.sz:Int)<=n:=by
 have h:=of_decide_eq_true h
 have:=room_sz t n 8 h
 omega
def Zk (md:Region.Mode)(ops':Array Oper)(listed:Array Bool):Prop:=∀ (i:Nat) (x:Oper),ops'[i]?=some x->listed.getD i false=true->∀ e∈x.after,Region.binds md e=true->listed.getD e.on false=true
theorem qQn {l:Array Bool}{i j:Nat}(h:l.getD j false=true):(l.setIfInBounds i true).getD j false=true:=by
 simp only[Array.getD_eq_getD_getElem?,Array.getElem?_setIfInBounds]at h ⊢
 split
 ·split
  ·rfl
  ·rename_i h1 h2
   subst h1
   rw[Array.getElem?_eq_none (by omega)]at h;simp at h
 ·exact h
theorem Zk.step {md:Region.Mode}{ops':Array Oper}{listed:Array Bool}(h:Zk md ops' listed)(_:listed.size=ops'.size){i:Nat}(hi:i∈Region.ready md ops' listed):Zk md ops' (listed.setIfInBounds i true):=by
 intro j x hx hl e he hb
 obtain⟨_,y,hy,h2⟩:=mem_ready.1 hi
 refine qQn ?_
 by_cases hij:i=j
 ·subst hij
  rw[hx]at hy;cases hy
  exact h2 e he hb
 ·refine h j x hx ?_ e he hb
  simp only[Array.getD_eq_getD_getElem?,Array.getElem?_setIfInBounds,if_neg hij]at hl ⊢
  exact hl
theorem Zk.none {md:Region.Mode}{ops':Array Oper}(n:Nat):Zk md ops' (List.replicate n false).toArray:=by
 intro j x _ hl
 exfalso
 rw[Array.getD_eq_getD_getElem?]at hl
 simp only[List.getElem?_toArray,List.getElem?_replicate]at hl
 split at hl<;>simp at hl
theorem ZG {md:Region.Mode}{ops':Array Oper}(hord:∀ (j:Nat) (x:Oper),ops'[j]?=some x->∀ e∈x.after,Region.binds md e=true->e.on<j){listed:Array Bool}(hs:listed.size=ops'.size)(hr:Region.ready md ops' listed=[]):∀ j,j<ops'.size->listed.getD j false=true:=by
 intro j
 induction j using Nat.strongRecOn with
 |ind j ih=>
  intro hj
  cases hl:listed.getD j false with
  |true=>rfl
  |false=>
   have hx:ops'[j]?=some ops'[j]:=Array.getElem?_eq_getElem hj
   have:j∈Region.ready md ops' listed:=mem_ready.2 ⟨by simp[Array.getElem?_eq_getElem (hs▸hj:j<listed.size)]at hl ⊢;exact hl,_,hx,fun e he hb=>ih e.on (hord j _ hx e he hb) (Nat.lt_trans (hord j _ hx e he hb) hj)⟩
   rw[hr]at this;cases this
section
variable {P:Program}{Q:Exit->Act->World->Prop}{md:Region.Mode}{ops':Array Oper}{o:Oper}
theorem KO (hg:∀ (j:Nat) (x:Oper),ops'[j]?=some x->x.guard=none)(hord:∀ (j:Nat) (x:Oper),ops'[j]?=some x->∀ e∈x.after,Region.binds md e=true->e.on<j)(hlast:∀ j,j<ops'.size->(∃ e∈o.after,Region.binds md e=true/\e.on=j)∨∃ k x,ops'[k]?=some x/\(∃ e∈o.after,Region.binds md e=true/\e.on=k)/\∃ e∈x.after,Region.binds md e=true/\e.on=j)(hon:∀ e∈o.after,e.on<ops'.size)(hgo:o.guard=none) :
  ∀ (fuel:Nat) (listed:Array Bool) (a:Act) (w:World),listed.size=ops'.size->Zk md ops' listed->wpAny P md ops' (PopQ Q (wpList P (ops'.push o) Q [o])) fuel listed a w->wpAny P md (ops'.push o) Q (fuel+1) (listed.push false) a w:=by
 have hin:∀ (listed:Array Bool),listed.size=ops'.size->Zk md ops' listed->∀ i,i∈Region.ready md (ops'.push o) (listed.push false)->(i<ops'.size/\i∈Region.ready md ops' listed)∨(i=ops'.size/\Region.ready md ops' listed=[]):=by
  intro listed hs hdc i hi
  obtain⟨h1,x,hx,h2⟩:=mem_ready.1 hi
  have hlt:i<ops'.size+1:=by have:=(Array.getElem?_eq_some_iff.1 hx).1;simpa using this
  by_cases he:i<ops'.size
  ·refine .inl ⟨he,mem_ready.2 ⟨?_,x,?_,fun e hee hb=>?_⟩⟩
   ·simp only[Array.getD_eq_getD_getElem?,Array.getElem?_push,if_neg (show ¬i=listed.size by omega)]at h1 ⊢;exact h1
   ·rw[Array.getElem?_push,if_neg (by omega)]at hx;exact hx
   ·have hx2:ops'[i]?=some x:=by rw[Array.getElem?_push,if_neg (by omega)]at hx;exact hx
    have h3:=h2 e hee hb
    have h4:=hord i x hx2 e hee hb
    simp only[Array.getD_eq_getD_getElem?,Array.getElem?_push,if_neg (show ¬e.on=listed.size by omega)]at h3 ⊢;exact h3
  ·obtain rfl:i=ops'.size:=by omega
   refine .inr ⟨rfl,?_⟩
   have hxo:x=o:=by rw[Array.getElem?_push,if_pos rfl]at hx;exact (Option.some.inj hx).symm
   subst hxo
   rw[List.eq_nil_iff_forall_not_mem]
   intro j hj
   obtain⟨g1,y,hy,_⟩:=mem_ready.1 hj
   have hj':=(Array.getElem?_eq_some_iff.1 hy).1
   have hn:∀ k,k<ops'.size->(∃ e∈x.after,Region.binds md e=true/\e.on=k)->listed.getD k false=true:=fun k hk ⟨e,he1,he2,he3⟩=>by
    have h3:=h2 e he1 he2
    rw[he3]at h3
    simp only[Array.getD_eq_getD_getElem?,Array.getElem?_push,if_neg (show ¬k=listed.size by omega)]at h3 ⊢
    exact h3
   have hl:listed.getD j false=true:=by
    rcases hlast j hj' with h|⟨k,y',hy',h,e,he1,he2,he3⟩
    ·exact hn j hj' h
    ·have hk:=(Array.getElem?_eq_some_iff.1 hy').1
     have:=hdc k y' hy' (hn k hk h) e he1 he2
     rw[he3]at this;exact this
   simp only[Array.getD_eq_getD_getElem?]at hl g1
   rw[Array.getElem?_eq_getElem (show j<listed.size by omega)]at hl g1
   simp at hl g1;rw[hl]at g1;cases g1
 have hfin:∀ (listed:Array Bool),listed.size=ops'.size->Region.ready md ops' listed=[]->Region.ready md (ops'.push o) ((listed.push false).setIfInBounds ops'.size true)=[]:=by
  intro listed hs hr
  rw[List.eq_nil_iff_forall_not_mem]
  intro j hj
  obtain⟨g1,y,hy,_⟩:=mem_ready.1 hj
  have hj':j<ops'.size+1:=by have:=(Array.getElem?_eq_some_iff.1 hy).1;simpa using this
  by_cases he:j<ops'.size
  ·have:=ZG hord hs hr j he
   simp only[Array.getD_eq_getD_getElem?,Array.getElem?_setIfInBounds,Array.getElem?_push,if_neg (show ¬ops'.size=j by omega),if_neg (show ¬j=listed.size by omega)]at g1 this
   rw[Array.getElem?_eq_getElem (show j<listed.size by omega)]at g1 this
   simp at g1 this;rw[this]at g1;cases g1
  ·obtain rfl:j=ops'.size:=by omega
   simp[hs]at g1
 have hstep:∀ (fuel:Nat) (listed:Array Bool) (a:Act) (w:World),listed.size=ops'.size->Region.ready md ops' listed=[]->wpList P (ops'.push o) Q [o] a w->wpOp P (ops'.push o) Q ops'.size (wpAny P md (ops'.push o) Q fuel ((listed.push false).setIfInBounds ops'.size true)) a w:=by
  intro fuel listed a w hs hr h
  unfold wpOp
  rw[Array.getElem?_push,if_pos rfl]
  have hw:Region.wanted o (yielded (ops'.push o) a.tmps)=true:=by simp[Region.wanted,hgo]
  unfold wpList at h
  simp only[hw,if_true]at *
  have hK:∀ a w,wpList P (ops'.push o) Q [] a w->wpAny P md (ops'.push o) Q fuel ((listed.push false).setIfInBounds ops'.size true) a w:=fun a w hq=>by
   have:=hfin listed hs hr
   cases fuel with
   |zero=>exact⟨this,hq⟩
   |succ fuel=>exact⟨fun _=>hq,by rw[this];simp⟩
  rcases h with h|h
  ·exact .inl (Oper.wp_mono hK h)
  ·exact .inr h
 intro fuel
 induction fuel with
 |zero=>
  intro listed a w hs hdc h
  obtain⟨h1,h2⟩:=h
  refine⟨fun h0=>?_,fun i hi=>?_⟩
  ·exfalso
   have:ops'.size∈Region.ready md (ops'.push o) (listed.push false):=mem_ready.2 ⟨by simp[←hs],o,by simp,fun e he _=>by
    have:=ZG hord hs h1 e.on (hon e he)
    simp only[Array.getD_eq_getD_getElem?,Array.getElem?_push,if_neg (show ¬e.on=listed.size by have:=hon e he;omega)]at this ⊢;exact this⟩
   rw[h0]at this;cases this
  ·rcases hin listed hs hdc i hi with⟨_,h3⟩|⟨rfl,_⟩
   ·rw[h1]at h3;cases h3
   ·exact hstep 0 listed a w hs h1 h2
 |succ fuel ih=>
  intro listed a w hs hdc h
  obtain⟨h1,h2⟩:=h
  refine⟨fun h0=>?_,fun i hi=>?_⟩
  ·exfalso
   by_cases hr:Region.ready md ops' listed=[]
   ·have:ops'.size∈Region.ready md (ops'.push o) (listed.push false):=mem_ready.2 ⟨by simp[←hs],o,by simp,fun e he _=>by
     have:=ZG hord hs hr e.on (hon e he)
     simp only[Array.getD_eq_getD_getElem?,Array.getElem?_push,if_neg (show ¬e.on=listed.size by have:=hon e he;omega)]at this ⊢;exact this⟩
    rw[h0]at this;cases this
   ·obtain⟨i,hi⟩:=List.exists_mem_of_ne_nil _ hr
    obtain⟨g1,x,hx,g2⟩:=mem_ready.1 hi
    have hlt:=(Array.getElem?_eq_some_iff.1 hx).1
    have:i∈Region.ready md (ops'.push o) (listed.push false):=mem_ready.2 ⟨by
     simp only[Array.getD_eq_getD_getElem?,Array.getElem?_push,if_neg (show ¬i=listed.size by omega)]at g1 ⊢;exact g1,x,by rw[Array.getElem?_push,if_neg (by omega)];exact hx,fun e he hb=>by
     have h3:=g2 e he hb
     have h4:=hord i x hx e he hb
     simp only[Array.getD_eq_getD_getElem?,Array.getElem?_push,if_neg (show ¬e.on=listed.size by omega)]at h3 ⊢;exact h3⟩
    rw[h0]at this;cases this
  ·rcases hin listed hs hdc i hi with⟨hlt,h3⟩|⟨rfl,hr⟩
   ·refine JQ hg hlt (fun a w hk=>?_) (h2 i h3)
    have:=ih (listed.setIfInBounds i true) a w (by simpa using hs) (hdc.step hs h3) hk
    rw[show (listed.push false).setIfInBounds i true=(listed.setIfInBounds i true).push false from ?_]
    ·exact this
    ·apply Array.ext_getElem?
     intro j
     simp only[Array.getElem?_setIfInBounds,Array.getElem?_push,Array.size_setIfInBounds,Array.size_push]
     by_cases e1:i=j
     ·subst e1
      simp[show i<listed.size by omega,show ¬i=listed.size by omega,show i<listed.size+1 by omega]
     ·simp[e1]
   ·exact hstep (fuel+1) listed a w hs hr (h1 hr)
end
section
variable {P:Program}{Q:Exit->Act->World->Prop}
def VM (ops':List Oper)(o:Oper)(j:Nat):Bool:=
 (o.after.any fun e=>Region.binds .any e&&(e.on==j))||(List.range ops'.length).any fun k=>(o.after.any fun e=>Region.binds .any e&&(e.on==k))&&match ops'[k]? with | some x=>x.after.any fun e=>Region.binds .any e&&(e.on==j) | none=>false
def popTB (ops':List Oper)(o:Oper):Bool:=
 ops'.all (fun x=>x.guard.isNone)&&o.guard.isNone&&((List.range ops'.length).all fun j=>match ops'[j]? with | some x=>x.after.all fun e=>!Region.binds .any e||decide (e.on<j) | none=>true) &&
  ((List.range ops'.length).all fun j=>VM ops' o j)&&(o.after.all fun e=>decide (e.on<ops'.length))
theorem VN {ops':List Oper}{o:Oper}{j:Nat}(h:VM ops' o j=true):(∃ e∈o.after,Region.binds .any e=true/\e.on=j)∨∃ k x,ops'.toArray[k]?=some x/\(∃ e∈o.after,Region.binds .any e=true/\e.on=k)/\∃ e∈x.after,Region.binds .any e=true/\e.on=j:=by
 have ha:∀ (y:Oper) (k:Nat),(y.after.any fun e=>Region.binds .any e&&(e.on==k))=true->∃ e∈y.after,Region.binds .any e=true/\e.on=k:=fun y k h=>by
  simp only[Array.any_eq_true',Bool.and_eq_true,beq_iff_eq]at h
  exact h
 unfold VM at h
 rw[Bool.or_eq_true]at h
 rcases h with h|h
 ·exact .inl (ha o j h)
 ·rw[List.any_eq_true]at h
  obtain⟨k,_,hk⟩:=h
  rw[Bool.and_eq_true]at hk
  obtain⟨h1,h2⟩:=hk
  split at h2
  ·rename_i x hx
   exact .inr ⟨k,x,by simpa using hx,ha o k h1,ha x j h2⟩
  ·cases h2
theorem Yd {ops':List Oper}{o:Oper}(hc:popTB ops' o=true){fuel:Nat}{listed:Array Bool}{a:Act}{w:World}(hs:listed.size=ops'.length)(hd:Zk .any ops'.toArray listed)
  (h:wpAny P .any ops'.toArray (PopQ Q (wpList P (ops'++[o]).toArray Q [o])) fuel listed a w):wpAny P .any (ops'++[o]).toArray Q (fuel+1) (listed.push false) a w:=by
 unfold popTB at hc
 simp only[Bool.and_eq_true,List.all_eq_true,List.mem_range,Array.all_eq_true_iff_forall_mem,decide_eq_true_eq,Option.isNone_iff_eq_none]at hc
 obtain⟨⟨⟨⟨c1,c2⟩,c3⟩,c4⟩,c5⟩:=hc
 have ho':(ops'++[o]).toArray=ops'.toArray.push o:=by simp
 rw[ho']at h ⊢
 exact KO (md:=.any) (ops':=ops'.toArray) (o:=o) (P:=P) (Q:=Q) (fun j x hx=>c1 x (by simpa using List.mem_of_getElem? (by simpa using hx)))
  (fun j x hx e he hb=>by
   have hx':ops'[j]?=some x:=by simpa using hx
   have:=c3 j (List.getElem?_eq_some_iff.1 hx').1
   rw[hx']at this
   simp only[Array.all_eq_true_iff_forall_mem,decide_eq_true_eq,Bool.or_eq_true,Bool.not_eq_true']at this
   rcases this e he with h|h
   ·rw[hb]at h;cases h
   ·exact h)
  (fun j hj=>VN (c4 j (by simpa using hj)))
  (fun e he=>by simpa using c5 e he) c2 fuel listed a w (by simpa using hs) hd h
theorem JI {l:List Oper}{o:Oper}{n:Nat}:Zk .any (l++[o]).toArray ((List.replicate n false).toArray.push false):=by
 have:((List.replicate n false).toArray.push false)=(List.replicate (n+1) false).toArray:=by
  apply Array.ext'
  simp[List.replicate_succ']
 rw[this]
 exact Zk.none _
def pop2L (n:Nat)(l:List Oper):Bool:=match l.drop n with|[o1,o2]=>((l.take n).length==n)&&popTB (l.take n) o1&&popTB (l.take n++[o1]) o2|_=>false
theorem Yi {S:World->Prop}{id:Nat}(n:Nat){l:List Oper}{a:Act}{w:World}(hm:P.follows .mixedOrders=true)(hc:pop2L n l=true)
  (h:wpAnyH P .any (l.take n).toArray (PopQ (PopQ Q (wpList P l.toArray Q (l.drop (n+1)))) (wpList P (l.take (n+1)).toArray (PopQ Q (wpList P l.toArray Q (l.drop (n+1)))) ((l.take (n+1)).drop n))) S n (List.replicate n false).toArray a w.drew):(Code.region id l.toArray true).wp P Q a w:=by
 unfold pop2L at hc
 split at hc
 ·rename_i o1 o2 ho
  simp only[Bool.and_eq_true,beq_iff_eq]at hc
  obtain⟨⟨hn,hc1⟩,hc2⟩:=hc
  have e1:l=l.take n++[o1,o2]:=by rw[←ho,List.take_append_drop]
  have e2:l.drop (n+1)=[o2]:=by rw[←List.drop_drop,ho];rfl
  have e3:l.take (n+1)=l.take n++[o1]:=by
   conv=>lhs;rw[e1]
   rw[List.take_append,hn,List.take_of_length_le (by rw[hn];omega),show n+1-n=1 by omega];rfl
  have e4:(l.take (n+1)).drop n=[o1]:=by rw[e3,List.drop_append,List.drop_of_length_le (by rw[hn];omega),hn];simp
  have e5:l=(l.take n++[o1])++[o2]:=by rw[List.append_assoc];exact e1
  rw[e2,e4,e3]at h
  have h1:=Yd hc1 (by simp[hn]) (Zk.none _) (wpAny_of_held _ _ _ _ h)
  have h2:wpAny P .any ((l.take n++[o1])++[o2]).toArray Q (n+1+1) (((List.replicate n false).toArray.push false).push false) a w.drew:=by
   refine Yd hc2 (by simp[hn]) JI ?_
   rw[←e5]
   exact h1
  refine wp_region_any hm ?_
  have e6:l.toArray.size=n+1+1:=by rw[e1];simp[hn]
  have e7:Array.replicate l.toArray.size false=((List.replicate n false).toArray.push false).push false:=by
   apply Array.ext'
   rw[e6];simp[List.replicate_succ']
  rw[e7,e6]
  rw[←e5]at h2
  exact h2
 ·cases hc
def pop1L (n:Nat)(l:List Oper):Bool:=match l.drop n with|[o]=>((l.take n).length==n)&&popTB (l.take n) o|_=>false
theorem QD {S:World->Prop}{id:Nat}(n:Nat){l:List Oper}{a:Act}{w:World}(hm:P.follows .mixedOrders=true)(hc:pop1L n l=true)
  (h:wpAnyH P .any (l.take n).toArray (PopQ Q (wpList P l.toArray Q (l.drop n))) S n (List.replicate n false).toArray a w.drew):(Code.region id l.toArray true).wp P Q a w:=by
 unfold pop1L at hc
 split at hc
 ·rename_i o ho
  simp only[Bool.and_eq_true,beq_iff_eq]at hc
  obtain⟨hn,hc1⟩:=hc
  have e1:l=l.take n++[o]:=by rw[←ho,List.take_append_drop]
  rw[ho]at h
  refine wp_region_any hm ?_
  have h2:wpAny P .any (l.take n++[o]).toArray Q (n+1) ((List.replicate n false).toArray.push false) a w.drew:=by
   refine Yd hc1 (by simp[hn]) (Zk.none _) ?_
   rw[←e1]
   exact wpAny_of_held _ _ _ _ h
  have e6:l.toArray.size=n+1:=by rw[e1];simp[hn]
  have e7:Array.replicate l.toArray.size false=(List.replicate n false).toArray.push false:=by
   apply Array.ext'
   rw[e6];simp[List.replicate_succ']
  rw[e7,e6]
  rw[←e1]at h2
  exact h2
 ·cases hc
end
theorem KW:Tryz.prog.eqGuardType Tryz.prog.depth 45=false:=by kernel_rfl
theorem Kk:Tryz.prog.eqGuardType Tryz.prog.depth 80=false:=by kernel_rfl
theorem qQ7 (x y:Sp)(w:World):(binOp .neq 45 (.agg #[.int .i64 x.dc,.int .i64 x.fr,.int .i64 x.hi]) (.agg #[.int .i64 y.dc,.int .i64 y.fr,.int .i64 y.hi])).run Tryz.prog w=.ok (.bool (!decide (x=y))) w:=by
 have u3:=Tryz.underlying3
 have u2:=Tryz.underlying2
 have hS:Tryz.prog.underlying 45=some (.struct (Tryz.prog.fieldsOf 45)):=by kernel_rfl
 have hp:Tryz.prog.stoodInHeld 45=false:=by kernel_rfl
 rw[run_neq_struct,show (10000:Nat)=9999+1 from rfl,run_equalIn_agg w 9999 45 _ _ hS hp]
 simp only[Program.fieldsOf,Tryz.underlying45]
 go_simp
 obtain⟨a,b,c⟩:=x;obtain⟨d,e,f⟩:=y
 by_cases h1:a=d<;>by_cases h2:b=e<;>by_cases h3:c=f<;>simp[h1,h2,h3]
theorem Zl (a b:ByteArray):a.toList=b.toList↔a=b:=by
 rw[ByteArray.toList_eq,ByteArray.toList_eq]
 obtain⟨⟨x⟩⟩:=a;obtain⟨⟨y⟩⟩:=b
 simp
theorem V4 (x y:En)(w:World):(binOp .neq 80 (.agg #[.int .i64 x.dc,.int .i64 x.n,.string x.s,.int .i64 x.v]) (.agg #[.int .i64 y.dc,.int .i64 y.n,.string y.s,.int .i64 y.v])).run Tryz.prog w=.ok (.bool (!decide (x=y))) w:=by
 have u3:=Tryz.underlying3
 have u2:=Tryz.underlying2
 have u9:=Tryz.underlying9
 have u27:=Tryz.underlying78
 have hS:Tryz.prog.underlying 80=some (.struct (Tryz.prog.fieldsOf 80)):=by kernel_rfl
 have hp:Tryz.prog.stoodInHeld 80=false:=by kernel_rfl
 have hS2:Tryz.prog.underlying 78=some (.struct (Tryz.prog.fieldsOf 78)):=by kernel_rfl
 have hp2:Tryz.prog.stoodInHeld 78=false:=by kernel_rfl
 rw[run_neq_struct,show (10000:Nat)=9999+1 from rfl,run_equalIn_agg w 9999 80 _ _ hS hp]
 simp only[Program.fieldsOf,Tryz.underlying80]
 go_simp
 have hq:=fun (a b c d:Int) (w:World)=>run_equalIn_agg (P:=Tryz.prog) w 9998 78 #[.int .i64 a,.int .i64 b] #[.int .i64 c,.int .i64 d] hS2 hp2
 try simp only[hq,Program.fieldsOf,u27]
 go_simp
 obtain⟨a,b,s,c⟩:=x;obtain⟨d,e,u,f⟩:=y
 by_cases h1:a=d<;>by_cases h2:b=e<;>by_cases h3:c=f<;>by_cases h4:s=u<;>simp[h1,h2,h3,h4,Zl]
theorem Zm {α:Type}{xs ys:List α}{k:Nat}{x y:α}(hx:xs[k]?=some x)(hy:ys[k]?=some y)(h:xs.take k=ys.take k):xs.take (k+1)=ys.take (k+1)↔x=y:=by
 rw[List.take_add_one,List.take_add_one,hx,hy,h]
 simp
theorem Jo (a b:List Sp)(va vb:Value)(w:World)(B:Nat)(ha:SlP w B 3 SpE va a)(hb:SlP w B 3 SpE vb b) :
  Calls Tryz.prog 40 #[va,vb] w fun e w'=>e=.returned (.bool (decide (a=b)))/\∃ n,w'=w.drewN n:=by
 obtain⟨A1,n1,rfl,b1,b2,b3⟩:=ha
 obtain⟨A2,n2,rfl,c1,c2,c3⟩:=hb
 unfold Big at b2 c2
 by_cases hl:a.length=b.length
 ·have hl':((a.length:Int) != (b.length:Int))=false:=by simp[hl]
  have HL:=hid hl
  clear hl
  have gg:=KW
  have nn:=qQ7
  go_enter Tryz.func40,Tryz.ntmps40
  go_wp2_with fail
  go_loopw [13] (fun i wr=>∃ k:Nat,k<=a.length/\i=.int .i64 k/\Hid (a.take k=b.take k)/\∃ n,wr=w.drewN n) (fun i _=>a.length-(intOf i).toNat)
  case atStart=>exact⟨0,Nat.zero_le _,rfl,rfl,0,rfl⟩
  case round=>
   obtain⟨k,hk,rfl,hrel,q,rfl⟩:=hrel
   by_cases hlt:k<a.length
   ·have hlt2:k<b.length:=by have:=HL.out;omega
    obtain⟨x,hx⟩:∃ x,a[k]?=some x:=⟨_,List.getElem?_eq_getElem hlt⟩
    obtain⟨y,hy⟩:∃ y,b[k]?=some y:=⟨_,List.getElem?_eq_getElem hlt2⟩
    obtain⟨ba,oa,rfl,hbA,hc⟩:=b3 (by rintro rfl;simp at hlt)
    obtain⟨bb,ob,rfl,hbB,hd⟩:=c3 (by rintro rfl;simp at hlt2)
    obtain⟨cs,⟨rfl,hok⟩,_,hu⟩:=hc k _ hx
    obtain⟨ds,⟨rfl,hok2⟩,_,hv⟩:=hd k _ hy
    have e0:w.cell? ⟨ba,oa+k*3,none⟩=some (.int .i64 x.dc):=hu 0 _ rfl
    have e1:w.cell? ⟨ba,oa+k*3+1,none⟩=some (.int .i64 x.fr):=hu 1 _ rfl
    have e2:w.cell? ⟨ba,oa+k*3+2,none⟩=some (.int .i64 x.hi):=hu 2 _ rfl
    have g0:w.cell? ⟨bb,ob+k*3,none⟩=some (.int .i64 y.dc):=hv 0 _ rfl
    have g1:w.cell? ⟨bb,ob+k*3+1,none⟩=some (.int .i64 y.fr):=hv 1 _ rfl
    have g2:w.cell? ⟨bb,ob+k*3+2,none⟩=some (.int .i64 y.hi):=hv 2 _ rfl
    have HT:=hid (Zm hx hy hrel.out)
    have HXY:Hid (a=b->x=y):=fun e=>by subst e;rw[hx]at hy;exact Option.some.inj hy
    have hi1:((k:Int))<(a.length:Int):=by omega
    have hi2:((k:Int))<(b.length:Int):=by omega
    clear hu hv hc hd b3 c3 hx hy hok hok2
    rcases hxy:decide (x=y)
    ·have hne:x≠y:=by simpa using hxy
     go_wp2_with fail
     go_quiet (fail)
     go_wp2_with fail
     go_ret
     exact⟨Qd (by simpa using fun e=>hne (HXY.out e)),q+nq,by first|rfl|exact World.drewN_drewN _ _ _⟩
    ·have hE:=hid (of_decide_eq_true hxy)
     go_wp2_with fail
     go_quiet (fail)
     go_wp2_with fail
     go_roundw
     case rel=>exact⟨k+1,by omega,by go_num,HT.out.2 hE.out,q+nq,by first|rfl|exact World.drewN_drewN _ _ _⟩
     case measure=>simp[intOf];omega
   ·obtain rfl:k=a.length:=by omega
    have HR:=hid hrel.out
    clear hrel
    go_wp2_with fail
    go_ret
    refine⟨Qd ?_,q,rfl⟩
    have h1:=HR.out
    rw[List.take_of_length_le (Nat.le_refl _),List.take_of_length_le (by rw[HL.out];exact Nat.le_refl _)]at h1
    simp[h1]
 ·have hl':((a.length:Int) != (b.length:Int))=true:=by simp;omega
  have HL:=hid hl
  clear hl
  go_enter Tryz.func40,Tryz.ntmps40
  go_wp2_with fail
  go_ret
  refine⟨Qd ?_,0,rfl⟩
  have:a≠b:=fun e=>HL.out (by rw[e])
  simp[this]
end Go.Proofs.YtbcoelggdikipaaGreat
namespace Go.Proofs.YtbcoelggdikipaaGreat
open Go.RowKit
open Classical in
noncomputable def trEq (s t:Tr):Bool:=decide (s=t)
theorem Ke {s t:Tr}:trEq s t=true↔s=t:=by simp[trEq]
theorem Yc {s t:Tr}:trEq s t=false↔s≠t:=by simp[trEq]
theorem YO (s:Tr):∀ (t:Tr) (w:World) (ve vk ue uk:Value),s.rd w w.heap.size ve vk->t.rd w w.heap.size ue uk ->
  Calls Tryz.prog 39 #[.agg #[ve,vk],.agg #[ue,uk]] w fun e w'=>e=.returned (.bool (trEq s t))/\Below w.heap.size w w':=by
 induction s using Tr.ind with
 |h es ks ih=>
 rintro⟨es',ks'⟩ w ve vk ue uk h h'
 rw[QB]at h h'
 obtain⟨⟨A1,n1,rfl,b1,b2,b3⟩,⟨A2,n2,rfl,c1,c2,c3⟩⟩:=h
 obtain⟨⟨A3,n3,rfl,d1,d2,d3⟩,⟨A4,n4,rfl,f1,f2,f3⟩⟩:=h'
 unfold Big at b2 c2 d2 f2
 by_cases hl:es.length=es'.length
 case neg=>
  have hl':((es.length:Int) != (es'.length:Int))=true:=by simp;omega
  have HL:=hid hl
  clear hl
  go_enter Tryz.func39,Tryz.ntmps39
  go_wp2_with fail
  go_ret
  refine⟨Qd ?_,by go_grown⟩
  rw[eq_comm,Yc]
  rintro e;cases e;exact HL.out rfl
 by_cases hm:ks.length=ks'.length
 case neg=>
  have hl':((es.length:Int) != (es'.length:Int))=false:=by simp[hl]
  have hm':((ks.length:Int) != (ks'.length:Int))=true:=by simp;omega
  have HL:=hid hm
  clear hl hm
  go_enter Tryz.func39,Tryz.ntmps39
  go_wp2_with fail
  go_ret
  refine⟨Qd ?_,by go_grown⟩
  rw[eq_comm,Yc]
  rintro e;cases e;exact HL.out rfl
 have hl':((es.length:Int) != (es'.length:Int))=false:=by simp[hl]
 have hm':((ks.length:Int) != (ks'.length:Int))=false:=by simp[hm]
 have HL:=hid hl
 have HM:=hid hm
 clear hl hm
 go_enter Tryz.func39,Tryz.ntmps39
 go_wp2_with fail
 go_loopw [26] (fun i wr=>∃ k:Nat,k<=es.length/\i=.int .i64 k/\Hid (es.take k=es'.take k) /\
   Below (w.heap.size+1+1) ((w.alloc (.cells #[.slice A1 es.length n1,.slice A2 ks.length n2] 25)).alloc (.cells #[.slice A3 es'.length n3,.slice A4 ks'.length n4] 25)) wr) (fun i _=>es.length-(intOf i).toNat)
 case atStart=>exact⟨0,Nat.zero_le _,rfl,rfl,Below.refl _ _⟩
 case round=>
  obtain⟨k,hk,rfl,hrel,hb⟩:=hrel
  have hsz:=hb.size
  simp only[World.size_alloc]at hsz
  have hB0:Below w.heap.size w wr:=(((Below.refl _ w).alloc (Nat.le_refl _) _).alloc (by simp) _).trans (hb.mono (by omega))
  have hs0:wr.cell? ⟨w.heap.size,0,none⟩=some (.slice A1 es.length n1):=by rw[hb.cell (p:=⟨w.heap.size,0,none⟩) (by simp;omega)];rw[World.cell?_alloc_past _ _ _ (by simp),World.cell?_alloc_new];rfl
  have hs1:wr.cell? ⟨w.heap.size,1,none⟩=some (.slice A2 ks.length n2):=by rw[hb.cell (p:=⟨w.heap.size,1,none⟩) (by simp;omega)];rw[World.cell?_alloc_past _ _ _ (by simp),World.cell?_alloc_new];rfl
  have ht0:wr.cell? ⟨w.heap.size+1,0,none⟩=some (.slice A3 es'.length n3):=by rw[hb.cell (p:=⟨w.heap.size+1,0,none⟩) (by simp),World.cell?_alloc_at _ _ _ _ (by simp)];rfl
  have ht1:wr.cell? ⟨w.heap.size+1,1,none⟩=some (.slice A4 ks'.length n4):=by rw[hb.cell (p:=⟨w.heap.size+1,1,none⟩) (by simp),World.cell?_alloc_at _ _ _ _ (by simp)];rfl
  by_cases hlt:k<es.length
  ·have hlt2:k<es'.length:=by have:=HL.out;omega
   obtain⟨x,hx⟩:∃ x,es[k]?=some x:=⟨_,List.getElem?_eq_getElem hlt⟩
   obtain⟨y,hy⟩:∃ y,es'[k]?=some y:=⟨_,List.getElem?_eq_getElem hlt2⟩
   obtain⟨ba,oa,rfl,hbA,hc⟩:=b3 (by rintro rfl;simp at hlt)
   obtain⟨bb,ob,rfl,hbB,hd⟩:=d3 (by rintro rfl;simp at hlt2)
   obtain⟨cs,⟨rfl,hok⟩,_,hu⟩:=hc k _ hx
   obtain⟨ds,⟨rfl,hok2⟩,_,hv⟩:=hd k _ hy
   have q0:=Qg (B:=wr.heap.size) ((hB0.cell hbA).trans (hu 0 _ rfl)) (by omega)
   have q1:=Qg (B:=wr.heap.size) ((hB0.cell hbA).trans (hu 1 _ rfl)) (by omega)
   have q2:=Qg (B:=wr.heap.size) ((hB0.cell hbA).trans (hu 2 _ rfl)) (by omega)
   have q3:=Qg (B:=wr.heap.size) ((hB0.cell hbA).trans (hu 3 _ rfl)) (by omega)
   have p0:=Qg (B:=wr.heap.size) ((hB0.cell hbB).trans (hv 0 _ rfl)) (by omega)
   have p1:=Qg (B:=wr.heap.size) ((hB0.cell hbB).trans (hv 1 _ rfl)) (by omega)
   have p2:=Qg (B:=wr.heap.size) ((hB0.cell hbB).trans (hv 2 _ rfl)) (by omega)
   have p3:=Qg (B:=wr.heap.size) ((hB0.cell hbB).trans (hv 3 _ rfl)) (by omega)
   simp only[Nat.add_zero]at q0 p0
   have r0:=Qg (B:=wr.heap.size) hs0 (by omega)
   have r1:=Qg (B:=wr.heap.size) ht0 (by omega)
   have HT:=hid (Zm hx hy hrel.out)
   have HXY:Hid (es=es'->x=y):=fun e=>by subst e;rw[hx]at hy;exact Option.some.inj hy
   have gg:=Kk
   have nn:=V4 x y
   have hi1:((k:Int))<(es.length:Int):=by omega
   have hi2:((k:Int))<(es'.length:Int):=by omega
   clear hu hv hc hd b3 d3 hx hy hok hok2
   rcases hxy:decide (x=y)
   ·have hne:x≠y:=by simpa using hxy
    go_upto_region 6 with (fail)
    refine Qc wr.heap.size (by kernel_rfl) (by kernel_rfl) ?_
    repeat (go_big_quiet_step (fail))
    refine wpQuiet_nil ?_
    intro wq hbq
    go_wp2_with fail
    go_ret
    refine⟨Qd ?_,hB0.trans (hbq.mono (by omega))⟩
    rw[eq_comm,Yc]
    rintro e;cases e;exact hne (HXY.out rfl)
   ·have hE:=hid (of_decide_eq_true hxy)
    go_upto_region 6 with (fail)
    refine Qc wr.heap.size (by kernel_rfl) (by kernel_rfl) ?_
    repeat (go_big_quiet_step (fail))
    refine wpQuiet_nil ?_
    intro wq hbq
    go_wp2_with fail
    go_roundw
    case rel=>exact⟨k+1,by omega,by go_num,HT.out.2 hE.out,hb.trans (hbq.mono (by omega))⟩
    case measure=>simp[intOf];omega
  ·obtain rfl:k=es.length:=by omega
   have HE:Hid (es=es'):=by
    have h1:=hrel.out
    rw[List.take_of_length_le (Nat.le_refl _),List.take_of_length_le (by rw[HL.out];exact Nat.le_refl _)]at h1
    exact h1
   clear hrel hs0 ht0 hB0 b3 d3 hlt
   go_wp2_with fail
   clear hs1 ht1 hsz
   obtain⟨wo,rfl⟩:∃ wo:World,wo=wr:=⟨_,rfl⟩
   go_loopw [44] (fun i wr=>∃ k:Nat,k<=ks.length/\i=.int .i64 k/\Hid (ks.take k=ks'.take k) /\
    Below (w.heap.size+1+1) ((w.alloc (.cells #[.slice A1 es.length n1,.slice A2 ks.length n2] 25)).alloc (.cells #[.slice A3 es'.length n3,.slice A4 ks'.length n4] 25)) wr) (fun i _=>ks.length-(intOf i).toNat)
   case atStart=>exact⟨0,Nat.zero_le _,rfl,rfl,hb⟩
   case round=>
    clear hb
    obtain⟨k,hk,rfl,hrel,hb⟩:=hrel
    have hsz:=hb.size
    simp only[World.size_alloc]at hsz
    have hB0:Below w.heap.size w wr:=(((Below.refl _ w).alloc (Nat.le_refl _) _).alloc (by simp) _).trans (hb.mono (by omega))
    by_cases hlt:k<ks.length
    ·have hlt2:k<ks'.length:=by have:=HM.out;omega
     obtain⟨⟨key,s1⟩,hx⟩:∃ x,ks[k]?=some x:=⟨_,List.getElem?_eq_getElem hlt⟩
     obtain⟨⟨key',t1⟩,hy⟩:∃ y,ks'[k]?=some y:=⟨_,List.getElem?_eq_getElem hlt2⟩
     obtain⟨ba,oa,rfl,hbA,hc⟩:=c3 (by rintro rfl;simp at hlt)
     obtain⟨bb,ob,rfl,hbB,hd⟩:=f3 (by rintro rfl;simp at hlt2)
     obtain⟨cs,⟨v1,v2,rfl,_,hrs⟩,_,hu⟩:=hc k _ hx
     obtain⟨ds,⟨u1,u2,rfl,_,hrt⟩,_,hv⟩:=hd k _ hy
     have hs1:wr.cell? ⟨w.heap.size,1,none⟩=some (.slice (some ⟨ba,oa,none⟩) ks.length n2):=by rw[hb.cell (p:=⟨w.heap.size,1,none⟩) (by simp;omega)];rw[World.cell?_alloc_past _ _ _ (by simp),World.cell?_alloc_new];rfl
     have ht1:wr.cell? ⟨w.heap.size+1,1,none⟩=some (.slice (some ⟨bb,ob,none⟩) ks'.length n4):=by rw[hb.cell (p:=⟨w.heap.size+1,1,none⟩) (by simp),World.cell?_alloc_at _ _ _ _ (by simp)];rfl
     have q0:=Qg (B:=wr.heap.size) ((hB0.cell hbA).trans (hu 0 _ rfl)) (by omega)
     have q1:=Qg (B:=wr.heap.size) ((hB0.cell hbA).trans (hu 1 _ rfl)) (by omega)
     have q2:=Qg (B:=wr.heap.size) ((hB0.cell hbA).trans (hu 2 _ rfl)) (by omega)
     have p0:=Qg (B:=wr.heap.size) ((hB0.cell hbB).trans (hv 0 _ rfl)) (by omega)
     have p1:=Qg (B:=wr.heap.size) ((hB0.cell hbB).trans (hv 1 _ rfl)) (by omega)
     have p2:=Qg (B:=wr.heap.size) ((hB0.cell hbB).trans (hv 2 _ rfl)) (by omega)
     simp only[Nat.add_zero]at q0 p0
     have r0:=Qg (B:=wr.heap.size) hs1 (by omega)
     have r1:=Qg (B:=wr.heap.size) ht1 (by omega)
     have HT:=hid (Zm hx hy hrel.out)
     have HXY:Hid (ks=ks'->(key,s1)=(key',t1)):=fun e=>by subst e;rw[hx]at hy;exact Option.some.inj hy
     have hmem:(key,s1)∈ks:=List.mem_of_getElem? hx
     have HRS:Hid (∀ w',Below wr.heap.size wr w'->s1.rd w' w'.heap.size v1 v2):=fun w' hb'=>Qi (hB0.trans (hb'.mono (by omega))) (by have:=hb'.size;omega) _ _ _ hrs
     have HRT:Hid (∀ w',Below wr.heap.size wr w'->t1.rd w' w'.heap.size u1 u2):=fun w' hb'=>Qi (hB0.trans (hb'.mono (by omega))) (by have:=hb'.size;omega) _ _ _ hrt
     have hi1:((k:Int))<(ks.length:Int):=by omega
     have hi2:((k:Int))<(ks'.length:Int):=by omega
     clear hu hv hc hd c3 f3 hx hy hs1 ht1 hrs hrt
     rcases hxy:(key.toList==key'.toList)
     ·have hne:key≠key':=fun e=>by rw[e]at hxy;simp at hxy
      have hxy2:(key.toList != key'.toList)=true:=by simp[bne,hxy]
      go_upto_region 12 with (fail)
      refine Qc wr.heap.size (by kernel_rfl) (by kernel_rfl) ?_
      repeat (go_big_quiet_step (fail))
      refine wpQuiet_nil ?_
      intro wq hbq
      go_wp2_with fail
      go_ret
      refine⟨Qd ?_,hB0.trans (hbq.mono (by omega))⟩
      rw[eq_comm,Yc]
      rintro e;cases e;exact hne (Prod.mk.inj (HXY.out rfl)).1
     have hE:=hid ((Zl key key').1 (by simpa using hxy))
     have hxy2:(key.toList != key'.toList)=false:=by simp[bne,hxy]
     rcases hst:trEq s1 t1
     ·have hne:=Yc.1 hst
      go_upto_region 12 with (fail)
      refine Qc wr.heap.size (by kernel_rfl) (by kernel_rfl) ?_
      repeat (go_big_quiet_step ((go_at_call 39;exact Calls.far_all (Nat.le_refl _) (fun w' hb'=>ih key s1 hmem t1 w' _ _ _ _ (HRS.out w' hb') (HRT.out w' hb')))))
      refine wpQuiet_nil ?_
      intro wq hbq
      go_wp2_with fail
      go_ret
      refine⟨Qd ?_,hB0.trans (hbq.mono (by omega))⟩
      rw[eq_comm,Yc]
      rintro e;cases e;exact hne (Prod.mk.inj (HXY.out rfl)).2
     ·have hF:=hid (Ke.1 hst)
      go_upto_region 12 with (fail)
      refine Qc wr.heap.size (by kernel_rfl) (by kernel_rfl) ?_
      repeat (go_big_quiet_step ((go_at_call 39;exact Calls.far_all (Nat.le_refl _) (fun w' hb'=>ih key s1 hmem t1 w' _ _ _ _ (HRS.out w' hb') (HRT.out w' hb')))))
      refine wpQuiet_nil ?_
      intro wq hbq
      go_wp2_with fail
      go_roundw
      case rel=>exact⟨k+1,by omega,by go_num,HT.out.2 (by rw[hE.out,hF.out]),hb.trans (hbq.mono (by omega))⟩
      case measure=>simp[intOf];omega
    ·obtain rfl:k=ks.length:=by omega
     have HK:Hid (ks=ks'):=by
      have h1:=hrel.out
      rw[List.take_of_length_le (Nat.le_refl _),List.take_of_length_le (by rw[HM.out];exact Nat.le_refl _)]at h1
      exact h1
     clear hrel
     go_wp2_with fail
     go_ret
     refine⟨Qd ?_,hB0⟩
     rw[eq_comm,Ke,HE.out,HK.out]
end Go.Proofs.YtbcoelggdikipaaGreat
namespace Go.Proofs.YtbcoelggdikipaaGreat
open Go.RowKit
theorem QF (s t:Tr)(a b:List Sp)(ve vk ue uk va vb:Value)(w:World)(h:s.rd w w.heap.size ve vk)(h':t.rd w w.heap.size ue uk)(ha:SlP w w.heap.size 3 SpE va a)(hb:SlP w w.heap.size 3 SpE vb b) :
  Calls Tryz.prog 12 #[.agg #[ve,vk,va],.agg #[ue,uk,vb]] w fun e w'=>e=.returned (.bool (trEq s t&&decide (a=b)))/\Below w.heap.size w w':=by
 obtain⟨A1,n1,A2,n2,rfl,rfl⟩:=Qk h
 obtain⟨A3,n3,A4,n4,rfl,rfl⟩:=Qk h'
 have ha0:=ha
 have hb0:=hb
 obtain⟨A5,n5,rfl,_⟩:=ha
 obtain⟨A6,n6,rfl,_⟩:=hb
 have hB:Below w.heap.size w ((w.alloc (.cells #[.slice A1 s.es.length n1,.slice A2 s.ks.length n2,.slice A5 a.length n5] 29)).alloc (.cells #[.slice A3 t.es.length n3,.slice A4 t.ks.length n4,.slice A6 b.length n6] 29)):=((Below.refl _ w).alloc (Nat.le_refl _) _).alloc (by simp) _
 go_enter Tryz.func12,Tryz.ntmps12
 rcases hst:trEq s t
 ·go_wp2_with (go_at_call 39;refine (YO s t _ _ _ _ _ (Qi hB hB.size _ _ _ h) (Qi hB hB.size _ _ _ h')).mono ?_;rw[hst];rintro e w1 ⟨rfl,hb1⟩)
  go_ret
  exact⟨Qd (by simp),hB.trans (hb1.mono hB.size)⟩
 ·go_wp2_with (first|(go_at_call 39;go_loud ((refine (YO s t _ _ _ _ _ (Qi hB hB.size _ _ _ h) (Qi hB hB.size _ _ _ h')).mono ?_);rw[hst];rintro e w1 ⟨rfl,hb1⟩;have hc0:w1.cell? ⟨w.heap.size,2,none⟩=some (.slice A5 a.length n5):=(by rw[hb1.cell (p:=⟨w.heap.size,2,none⟩) (by simp;omega),World.cell?_alloc_past _ _ _ (by simp),World.cell?_alloc_new];rfl);have hc1:w1.cell? ⟨w.heap.size+1,2,none⟩=some (.slice A6 b.length n6):=(by rw[hb1.cell (p:=⟨w.heap.size+1,2,none⟩) (by simp),World.cell?_alloc_at _ _ _ _ (by simp)];rfl);have hB1:=hid (hB.trans (hb1.mono hB.size))))|(go_at_call 40;go_loud ((refine (Jo a b _ _ w1 _ (ha0.imp hB1.out hB1.out.size (fun _ _ _ h=>h)) (hb0.imp hB1.out hB1.out.size (fun _ _ _ h=>h))).mono ?_);rintro e w2 ⟨rfl,q,rfl⟩)))
  go_ret
  exact⟨Qd (by simp),hB1.out.trans ⟨rfl,rfl,rfl,Nat.le_refl _,fun _ _=>rfl⟩⟩
def ltS (a b:ByteArray):Bool:=Op.bytesLess a.toList b.toList
theorem QR (a:ByteArray):ltS a a=false:=by
 unfold ltS;rw[bytesLess_eq];simp[List.lt_irrefl]
theorem ZI {a b c:ByteArray}(h:ltS a b=true)(k:ltS b c=true):ltS a c=true:=by
 unfold ltS at *;rw[bytesLess_eq]at *
 simp only[decide_eq_true_eq]at *
 exact List.lt_trans h k
theorem KY {a b:ByteArray}(h:ltS a b=false)(k:ltS b a=false):a=b:=by
 unfold ltS at *;rw[bytesLess_eq]at *
 simp only[decide_eq_false_iff_not,List.not_lt]at *
 exact (Zl a b).1 (List.le_antisymm k h)
theorem qZu (a b:ByteArray):ltS a b=(!Op.bytesLess b.toList a.toList&&!(b.toList==a.toList)):=by
 unfold ltS
 rw[bytesLess_eq,bytesLess_eq,Bool.eq_iff_iff]
 simp only[decide_eq_true_eq,Bool.and_eq_true,Bool.not_eq_true',decide_eq_false_iff_not,beq_eq_false_iff_ne,List.not_lt]
 constructor
 ·intro h;exact⟨List.le_of_lt h,fun e=>by rw[e]at h;exact List.lt_irrefl _ h⟩
 ·rintro⟨h,k⟩
  rcases Decidable.em (a.toList<b.toList) with h'|h'
  ·exact h'
  ·exact absurd (List.le_antisymm (List.not_lt.1 h') h) k
theorem Km (a:Dt):a.lt a=false:=by simp[Dt.lt]
theorem XI {a b c:Dt}(h:a.lt b=true)(k:b.lt c=true):a.lt c=true:=by
 unfold Dt.lt at *
 split at h<;>split at k<;>split<;>simp at *<;>omega
theorem KZ {last:Option Dt}{a b:Dt}(h:okP last a=true)(k:a.lt b=true):okP last b=true:=by
 cases last with
 |none=>rfl
 |some q=>exact XI h k
theorem Qa {w:World}{n i:Nat}{cs:Array Value}{e:TypeId}{z:Nat×Nat}(h:w.heap[n]?=some (.cells cs e z)):w.cell? ⟨n,i,none⟩=cs[i]?:=by
 unfold World.cell?;simp only[h];rfl
theorem bx2 {w:World}{g:Nat}{a b:Value}{e:TypeId}(h:w.heap[g]?=some (.cells #[a,b] e (0,0))):w.cell? ⟨g,0,none⟩=some a/\w.cell? ⟨g,1,none⟩=some b:=⟨Qa (i:=0) h,Qa (i:=1) h⟩
theorem bx3 {w:World}{g:Nat}{a b c:Value}{e:TypeId}(h:w.heap[g]?=some (.cells #[a,b,c] e (0,0))):w.cell? ⟨g,0,none⟩=some a/\w.cell? ⟨g,1,none⟩=some b/\w.cell? ⟨g,2,none⟩=some c:=⟨Qa (i:=0) h,Qa (i:=1) h,Qa (i:=2) h⟩
theorem bx4 {w:World}{g:Nat}{a b c d:Value}{e:TypeId}(h:w.heap[g]?=some (.cells #[a,b,c,d] e (0,0))):w.cell? ⟨g,0,none⟩=some a/\w.cell? ⟨g,1,none⟩=some b/\w.cell? ⟨g,2,none⟩=some c/\w.cell? ⟨g,3,none⟩=some d:=⟨Qa (i:=0) h,Qa (i:=1) h,Qa (i:=2) h,Qa (i:=3) h⟩
theorem bx7 {w:World}{g:Nat}{a b c d x y z:Value}{e:TypeId}(h:w.heap[g]?=some (.cells #[a,b,c,d,x,y,z] e (0,0))):w.cell? ⟨g,0,none⟩=some a/\w.cell? ⟨g,1,none⟩=some b/\w.cell? ⟨g,2,none⟩=some c/\w.cell? ⟨g,3,none⟩=some d/\w.cell? ⟨g,4,none⟩=some x/\w.cell? ⟨g,5,none⟩=some y/\w.cell? ⟨g,6,none⟩=some z:=⟨Qa (i:=0) h,Qa (i:=1) h,Qa (i:=2) h,Qa (i:=3) h,Qa (i:=4) h,Qa (i:=5) h,Qa (i:=6) h⟩
theorem bzn {w:World}{g:Nat}{cs:Array Value}{e:TypeId}(h:w.heap[g]?=some (.cells cs e (0,0)))(i:Nat):w.frozen? ⟨g,i,none⟩=false:=by simp[World.frozen?,h]
theorem bz2 {w:World}{g:Nat}{a b:Value}{e:TypeId}(h:w.heap[g]?=some (.cells #[a,b] e (0,0))):w.cell? ⟨g,0,none⟩=some a/\w.cell? ⟨g,1,none⟩=some b/\w.frozen? ⟨g,0,none⟩=false/\w.frozen? ⟨g,1,none⟩=false:=⟨(bx2 h).1,(bx2 h).2,bzn h 0,bzn h 1⟩
theorem bz3 {w:World}{g:Nat}{a b c:Value}{e:TypeId}(h:w.heap[g]?=some (.cells #[a,b,c] e (0,0))):w.cell? ⟨g,0,none⟩=some a/\w.cell? ⟨g,1,none⟩=some b/\w.cell? ⟨g,2,none⟩=some c/\w.frozen? ⟨g,0,none⟩=false/\w.frozen? ⟨g,1,none⟩=false/\w.frozen? ⟨g,2,none⟩=false:=⟨(bx3 h).1,(bx3 h).2.1,(bx3 h).2.2,bzn h 0,bzn h 1,bzn h 2⟩
theorem bz4 {w:World}{g:Nat}{a b c d:Value}{e:TypeId}(h:w.heap[g]?=some (.cells #[a,b,c,d] e (0,0))):w.cell? ⟨g,0,none⟩=some a/\w.cell? ⟨g,1,none⟩=some b/\w.cell? ⟨g,2,none⟩=some c/\w.cell? ⟨g,3,none⟩=some d/\w.frozen? ⟨g,0,none⟩=false/\w.frozen? ⟨g,1,none⟩=false/\w.frozen? ⟨g,2,none⟩=false/\w.frozen? ⟨g,3,none⟩=false:=⟨(bx4 h).1,(bx4 h).2.1,(bx4 h).2.2.1,(bx4 h).2.2.2,bzn h 0,bzn h 1,bzn h 2,bzn h 3⟩
theorem bz7 {w:World}{g:Nat}{a b c d x y z:Value}{e:TypeId}(h:w.heap[g]?=some (.cells #[a,b,c,d,x,y,z] e (0,0))):w.cell? ⟨g,0,none⟩=some a/\w.cell? ⟨g,1,none⟩=some b/\w.cell? ⟨g,2,none⟩=some c/\w.cell? ⟨g,3,none⟩=some d/\w.cell? ⟨g,4,none⟩=some x/\w.cell? ⟨g,5,none⟩=some y/\w.cell? ⟨g,6,none⟩=some z/\w.frozen? ⟨g,0,none⟩=false/\w.frozen? ⟨g,1,none⟩=false/\w.frozen? ⟨g,2,none⟩=false/\w.frozen? ⟨g,3,none⟩=false/\w.frozen? ⟨g,4,none⟩=false/\w.frozen? ⟨g,5,none⟩=false/\w.frozen? ⟨g,6,none⟩=false:=⟨(bx7 h).1,(bx7 h).2.1,(bx7 h).2.2.1,(bx7 h).2.2.2.1,(bx7 h).2.2.2.2.1,(bx7 h).2.2.2.2.2.1,(bx7 h).2.2.2.2.2.2,bzn h 0,bzn h 1,bzn h 2,bzn h 3,bzn h 4,bzn h 5,bzn h 6⟩
theorem Qb {w:World}{n i:Nat}{cs:Array Value}{e:TypeId}(h:w.heap[n]?=some (.cells cs e (0,0))):w.frozen? ⟨n,i,none⟩=false:=by
 simp[World.frozen?,h]
theorem Qe {w:World}{n i:Nat}{cs:Array Value}{e:TypeId}{z:Nat×Nat}(h:w.heap[n]?=some (.cells cs e z))(v:Value):(w.setCell ⟨n,i,none⟩ v).heap[n]?=some (.cells (cs.setIfInBounds i v) e z):=by
 have hlt:=lt_of_block h
 have h':w.heap[n]=.cells cs e z:=by simpa[Array.getElem?_eq_getElem hlt] using h
 show (w.heap.modify n _)[n]?=_
 rw[Array.getElem?_eq_getElem (by simpa using hlt),Array.getElem_modify_self,h']
 rfl
theorem OwnP.setOther {α:Type}{w:World}{base:Nat}{e:TypeId}{sz:Nat}{E:α->List Value->Prop}{v:Value}{xs:List α}(h:OwnP w base e sz E v xs){a:Addr}(ha:a.block<base)(u:Value):OwnP (w.setCell a u) base e sz E v xs:=by
 obtain⟨css,h1,h2⟩:=h
 exact⟨css,h1,ownsRow_setCell_below h2 ha u⟩
theorem OwnD.setOther {α:Type}{w:World}{base:Nat}{e:TypeId}{sz:Nat}{E:World->(Nat->Prop)->α->List Value->Prop}{okp:Nat->Prop}{v:Value}{xs:List α}(h:OwnD w base e sz E okp v xs)(hE:Emon E){a:Addr}(ha:a.block<base)(ho:¬okp a.block)(u:Value):OwnD (w.setCell a u) base e sz E okp v xs:=
 (OwnP.setOther h ha u).imp fun _ _ _ hx=>hE.up (w:=w) (fun b hb=>Below.heap_setCell w a u b (fun e=>ho (e▸hb.1))) (fun b hb=>⟨hb.1,by simpa[World.setCell] using hb.2.1,hb.2.2⟩) hx
theorem qQ8 {w:World}{ok okq:Nat->Prop}{q:ByteArray}{t:Tr}{ve vk:Value}{B:Nat}(h:t.rda w ok ve vk)(hq:q.size<=Big)(hok:∀ b,ok b->b<w.heap.size/\okq b)(e:TypeId)(hB:w.heap.size<B) :
  SlP (w.alloc (.cells #[.string q,ve,vk] e)) B 3 (KdA (w.alloc (.cells #[.string q,ve,vk] e)) okq) (.slice (some ⟨w.heap.size,0,none⟩) 1 1) [(q,t)]:=
 SlP.oneB (x:=(q,t)) (cs:=[.string q,ve,vk]) ⟨ve,vk,rfl,hq,Zi (fun b hb=>Qh (hok b hb).1) (fun b hb=>(hok b hb).2) _ _ _ h⟩ rfl e rfl hB
def cmpS (a b:ByteArray):Int:=if ltS a b then -1 else if ltS b a then 1 else 0
theorem XJ (a b:ByteArray)(w:World):Calls Tryz.prog 181 #[.string a,.string b] w fun e w'=>e=.returned (.int .i64 (cmpS a b))/\w=w':=by
 have hgt:=qZu b a
 have hE:Hid (cmpS a b=if Op.bytesLess a.toList b.toList then -1 else if ltS b a then 1 else 0):=rfl
 have hN1:(!(a.toList==a.toList))=false:=by simp
 have hN2:(!(b.toList==b.toList))=false:=by simp
 go_enter Tryz.func181,Tryz.ntmps181
 rcases g1:Op.bytesLess a.toList b.toList
 ·rcases g2:(a.toList==b.toList)
  ·have g3:¬a.toList=b.toList:=by simpa using g2
   have HR:Hid (cmpS a b=1):=by unfold Hid;rw[hE.out,g1,hgt,g1,g2];rfl
   clear hgt hE
   go_wp2
   go_ret
   exact⟨QC HR.out.symm,rfl⟩
  ·have g3:a.toList=b.toList:=by simpa using g2
   have HR:Hid (cmpS a b=0):=by unfold Hid;rw[hE.out,g1,hgt,g1,g2];rfl
   obtain rfl:a=b:=(Zl a b).1 g3
   clear hgt hE g3
   go_wp2
   go_ret
   exact⟨QC HR.out.symm,rfl⟩
 ·have HR:Hid (cmpS a b=-1):=by unfold Hid;rw[hE.out,g1];rfl
  clear hgt hE
  go_wp2
  go_ret
  exact⟨QC HR.out.symm,rfl⟩
def grtE (a b:En):En:=if orI (cmpI a.v b.v) (cmpS a.s b.s)<0 then b else a
theorem Jp (a b:En)(w:World):Calls Tryz.prog 177 #[.agg #[.int .i64 a.dc,.int .i64 a.n,.string a.s,.int .i64 a.v],.agg #[.int .i64 b.dc,.int .i64 b.n,.string b.s,.int .i64 b.v]] w fun e w'=>e=.returned (.agg #[.int .i64 (grtE a b).dc,.int .i64 (grtE a b).n,.string (grtE a b).s,.int .i64 (grtE a b).v])/\Below w.heap.size w w':=by
 go_enter Tryz.func177,Tryz.ntmps177
 go_upto_region 1 with (fail)
 go_region_held3 (fun w'=>w'.cell? ⟨w.heap.size,1,none⟩=some (.int .i64 a.n)/\w'.cell? ⟨w.heap.size,2,none⟩=some (.string a.s)/\w'.cell? ⟨w.heap.size,3,none⟩=some (.int .i64 a.v)/\w'.cell? ⟨w.heap.size+1,2,none⟩=some (.string b.s)/\w'.cell? ⟨w.heap.size+1,3,none⟩=some (.int .i64 b.v)) (go_keep)
  (first|(go_at_call 185;refine (ZH _ _ _).mono ?_;rintro e w' ⟨rfl,rfl⟩)|(go_at_call 181;refine (XJ _ _ _).mono ?_;rintro e w' ⟨rfl,rfl⟩)|(go_at_call 205;refine (KU (cmpI a.v b.v) (cmpS a.s b.s) _ _ (by rw[World.cell?_drew,World.cell?_alloc_at _ _ _ _ (by simp)];rfl) (by rw[World.cell?_drew,World.cell?_alloc_at _ _ _ _ (by simp)];rfl)).mono ?_;rintro e w' ⟨rfl,rfl⟩))
 have hB:Below w.heap.size w (((((w.alloc (.cells #[.int .i64 a.dc,.int .i64 a.n,.string a.s,.int .i64 a.v] 80)).alloc (.cells #[.int .i64 b.dc,.int .i64 b.n,.string b.s,.int .i64 b.v] 80)).alloc (.cells #[.int .i64 0,.int .i64 0,.string ⟨#[]⟩,.int .i64 0] 80)).alloc (.cells #[.int .i64 (cmpI a.v b.v),.int .i64 (cmpS a.s b.s)] 3)).drew):=by go_grown
 have g0:(((((w.alloc (.cells #[.int .i64 a.dc,.int .i64 a.n,.string a.s,.int .i64 a.v] 80)).alloc (.cells #[.int .i64 b.dc,.int .i64 b.n,.string b.s,.int .i64 b.v] 80)).alloc (.cells #[.int .i64 0,.int .i64 0,.string ⟨#[]⟩,.int .i64 0] 80)).alloc (.cells #[.int .i64 (cmpI a.v b.v),.int .i64 (cmpS a.s b.s)] 3)).drew).heap[w.heap.size]?=some (.cells #[.int .i64 a.dc,.int .i64 a.n,.string a.s,.int .i64 a.v] 80 (0,0)):=(Qh (by simp<;>omega)).trans ((Qh (by simp<;>omega)).trans ((Qh (by simp)).trans (Qf rfl)))
 have g1:(((((w.alloc (.cells #[.int .i64 a.dc,.int .i64 a.n,.string a.s,.int .i64 a.v] 80)).alloc (.cells #[.int .i64 b.dc,.int .i64 b.n,.string b.s,.int .i64 b.v] 80)).alloc (.cells #[.int .i64 0,.int .i64 0,.string ⟨#[]⟩,.int .i64 0] 80)).alloc (.cells #[.int .i64 (cmpI a.v b.v),.int .i64 (cmpS a.s b.s)] 3)).drew).heap[w.heap.size+1]?=some (.cells #[.int .i64 b.dc,.int .i64 b.n,.string b.s,.int .i64 b.v] 80 (0,0)):=(Qh (by simp<;>omega)).trans ((Qh (by simp)).trans (Qf (by simp)))
 have g2:(((((w.alloc (.cells #[.int .i64 a.dc,.int .i64 a.n,.string a.s,.int .i64 a.v] 80)).alloc (.cells #[.int .i64 b.dc,.int .i64 b.n,.string b.s,.int .i64 b.v] 80)).alloc (.cells #[.int .i64 0,.int .i64 0,.string ⟨#[]⟩,.int .i64 0] 80)).alloc (.cells #[.int .i64 (cmpI a.v b.v),.int .i64 (cmpS a.s b.s)] 3)).drew).heap[w.heap.size+2]?=some (.cells #[.int .i64 0,.int .i64 0,.string ⟨#[]⟩,.int .i64 0] 80 (0,0)):=(Qh (by simp)).trans (Qf (by simp))
 have a0:=Qa (i:=0) g0
 have a1:=Qa (i:=1) g0
 have a2:=Qa (i:=2) g0
 have a3:=Qa (i:=3) g0
 have b0:=Qa (i:=0) g1
 have b1:=Qa (i:=1) g1
 have b2:=Qa (i:=2) g1
 have b3:=Qa (i:=3) g1
 obtain⟨k0,k1,k2,k3,z0,z1,z2,z3⟩:=bz4 g2
 have HG:=hid g2
 clear g0 g1 g2
 simp only[List.getElem?_toArray,List.getElem?_cons_zero,List.getElem?_cons_succ]at a0 a1 a2 a3 b0 b1 b2 b3 k0 k1 k2 k3
 generalize ((((w.alloc (.cells #[.int .i64 a.dc,.int .i64 a.n,.string a.s,.int .i64 a.v] 80)).alloc (.cells #[.int .i64 b.dc,.int .i64 b.n,.string b.s,.int .i64 b.v] 80)).alloc (.cells #[.int .i64 0,.int .i64 0,.string ⟨#[]⟩,.int .i64 0] 80)).alloc (.cells #[.int .i64 (cmpI a.v b.v),.int .i64 (cmpS a.s b.s)] 3)).drew=W at *
 have HGR:Hid (grtE a b=if orI (cmpI a.v b.v) (cmpS a.s b.s)<0 then b else a):=rfl
 rcases hc:decide (orI (cmpI a.v b.v) (cmpS a.s b.s)<0)
 ·have HE:Hid (grtE a b=a):=by unfold Hid;rw[HGR.out,if_neg (of_decide_eq_false hc)]
  go_wp2_with fail
  have hW4:=Qe (i:=3) (Qe (i:=2) (Qe (i:=1) (Qe (i:=0) HG.out (.int .i64 a.dc)) (.int .i64 a.n)) (.string a.s)) (.int .i64 a.v)
  have r0:=(Qa (i:=0) hW4).trans (show _=some (.int .i64 a.dc) by simp)
  have r1:=(Qa (i:=1) hW4).trans (show _=some (.int .i64 a.n) by simp)
  have r2:=(Qa (i:=2) hW4).trans (show _=some (.string a.s) by simp)
  have r3:=(Qa (i:=3) hW4).trans (show _=some (.int .i64 a.v) by simp)
  refine bodyPost_ret (v:=.agg #[.int .i64 a.dc,.int .i64 a.n,.string a.s,.int .i64 a.v]) (by simp[results,Tryz.results177,go_sem,r0,r1,r2,r3]) rfl ⟨by rw[HE.out],(((hB.setCell (by simp<;>omega) _).setCell (by simp<;>omega) _).setCell (by simp<;>omega) _).setCell (by simp<;>omega) _⟩
 ·have HE:Hid (grtE a b=b):=by unfold Hid;rw[HGR.out,if_pos (of_decide_eq_true hc)]
  go_wp2_with fail
  have hW4:=Qe (i:=3) (Qe (i:=2) (Qe (i:=1) (Qe (i:=0) HG.out (.int .i64 b.dc)) (.int .i64 b.n)) (.string b.s)) (.int .i64 b.v)
  have r0:=(Qa (i:=0) hW4).trans (show _=some (.int .i64 b.dc) by simp)
  have r1:=(Qa (i:=1) hW4).trans (show _=some (.int .i64 b.n) by simp)
  have r2:=(Qa (i:=2) hW4).trans (show _=some (.string b.s) by simp)
  have r3:=(Qa (i:=3) hW4).trans (show _=some (.int .i64 b.v) by simp)
  refine bodyPost_ret (v:=.agg #[.int .i64 b.dc,.int .i64 b.n,.string b.s,.int .i64 b.v]) (by simp[results,Tryz.results177,go_sem,r0,r1,r2,r3]) rfl ⟨by rw[HE.out],(((hB.setCell (by simp<;>omega) _).setCell (by simp<;>omega) _).setCell (by simp<;>omega) _).setCell (by simp<;>omega) _⟩
end Go.Proofs.YtbcoelggdikipaaGreat
