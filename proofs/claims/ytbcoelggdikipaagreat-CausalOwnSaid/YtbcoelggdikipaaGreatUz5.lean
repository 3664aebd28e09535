/- What the laws need. No condition but those that each lemma states. -/
import Derived.Lib.RowBridge
import Derived.Shelf.SlSortCmp.NoneTotal
import Derived.Shelf.Slices.CompactS
import Derived.Shelf.Slices.In.SortNone
import Derived.Shelf.Sort.Plain
import Derived.Sort.OwnSorted
import Derived.Test.YtbcoelggdikipaaGreatProg
import Derived.Test.YtbcoelggdikipaaGreatUz2
import Derived.Test.YtbcoelggdikipaaGreatUz3
import Derived.Test.YtbcoelggdikipaaGreatUz4
import Derived.Test.YtbcoelggdikipaaGreatUz1
set_option maxRecDepth 100000
set_option maxHeartbeats 8000000
set_option linter.unusedSimpArgs false
namespace Go.Proofs.YtbcoelggdikipaaGreat
open Go.RowKit
theorem Y1 (x s:ByteArray)(A A':Option Addr)(n c n' c':Nat)(w:World) :
  Calls Tryz.prog 180 #[.agg #[.string x,.slice A n c,.slice A' n' c'],.string s] w fun e w'=>e=.returned (.int .i64 (cmpS x s))/\Below w.heap.size w w':=by
 go_enter Tryz.func180,Tryz.ntmps180
 go_wp2_with fail
 refine (XJ x s _).mono ?_
 rintro e w1 ⟨rfl,rfl⟩
 go_wp2_with fail
 go_ret
 exact⟨rfl,by go_grown⟩
theorem ZO:∀ args W,(callFunc 180 args).run Tryz.prog W=.ok (.enter 180 args) W:=enters_of Tryz.func180 (by kernel_rfl) rfl
theorem qZb (ks:List Kd)(s:ByteArray)(v:Value)(w:World)(h:SlP w w.heap.size 3 (KdE w w.heap.size) v ks)(hS:ks.Pairwise fun a b=>ltS a.1 b.1=true) :
  Calls Tryz.prog 179 #[v,.string s,.func (.func 180) #[] #[]] w fun e w'=>
   ((∃ (i:Nat) (t:Tr),e=.returned (.tuple #[.int .i64 i,.bool true])/\ks[i]?=some (s,t))∨(∃ i:Int,e=.returned (.tuple #[.int .i64 i,.bool false])/\∀ t,(s,t)∉ks))/\Below w.heap.size w w':=by
 obtain⟨A,n,rfl,b1,b2,b3⟩:=h
 unfold Big at b2
 go_enter Tryz.func179,Tryz.ntmps179
 go_wp2_with fail
 go_loopw [9,10] (fun a b wr=>∃ lo hi:Nat,lo<=hi/\hi<=ks.length/\a=.int .i64 lo/\b=.int .i64 hi/\Hid (∀ (j:Nat) y,j<lo->ks[j]?=some y->ltS y.1 s=true)/\Hid (∀ (j:Nat) y,hi<=j->ks[j]?=some y->ltS y.1 s=false)/\Below w.heap.size w wr) (fun a b _=>(intOf b).toNat-(intOf a).toNat)
 case atStart=>exact⟨0,ks.length,Nat.zero_le _,Nat.le_refl _,rfl,rfl,fun j y hj=>absurd hj (Nat.not_lt_zero _),fun j y hj hy=>by have:=(List.getElem?_eq_some_iff.1 hy).1;omega,Below.refl _ _⟩
 case round=>
  obtain⟨lo,hi,hlh,hhn,rfl,rfl,HLO,HHI,hb⟩:=hrel
  have hsz:=hb.size
  by_cases hlt:lo<hi
  ·obtain⟨m,hm,hm1,hm2⟩:∃ m:Nat,((lo:Int)+(hi:Int)) / 2=(m:Int)/\lo<=m/\m<hi:=⟨(lo+hi) / 2,by omega,by omega,by omega⟩
   obtain⟨x,hx⟩:∃ x,ks[m]?=some x:=⟨_,List.getElem?_eq_getElem (by omega)⟩
   obtain⟨b,off,rfl,hbB,hc⟩:=b3 (by rintro rfl;simp at hhn;omega)
   obtain⟨cs,⟨ve,vk,rfl,hok,hrd⟩,_,hu⟩:=hc m _ hx
   obtain⟨A3,n3,A4,n4,rfl,rfl⟩:=Qk hrd
   have e0:wr.cell? ⟨b,off+m*3,none⟩=some (.string x.1):=(hb.cell hbB).trans (hu 0 _ rfl)
   have e1:wr.cell? ⟨b,off+m*3+1,none⟩=some (.slice A3 x.2.es.length n3):=(hb.cell hbB).trans (hu 1 _ rfl)
   have e2:wr.cell? ⟨b,off+m*3+2,none⟩=some (.slice A4 x.2.ks.length n4):=(hb.cell hbB).trans (hu 2 _ rfl)
   have hcall:=Y1 x.1 s A3 A4 x.2.es.length n3 x.2.ks.length n4 wr
   have eg:=ZO
   have HX:=hid hx
   have HLT:Hid (∀ (j:Nat) y,j<m->ks[j]?=some y->ltS y.1 x.1=true):=fun j y hj hy=>by
    obtain⟨h1,h2⟩:=List.getElem?_eq_some_iff.1 hy
    obtain⟨h3,h4⟩:=List.getElem?_eq_some_iff.1 hx
    rw[List.pairwise_iff_getElem]at hS
    have:=hS j m h1 h3 hj
    rw[h2,h4]at this;exact this
   have HGT:Hid (∀ (j:Nat) y,m<j->ks[j]?=some y->ltS x.1 y.1=true):=fun j y hj hy=>by
    obtain⟨h1,h2⟩:=List.getElem?_eq_some_iff.1 hy
    obtain⟨h3,h4⟩:=List.getElem?_eq_some_iff.1 hx
    rw[List.pairwise_iff_getElem]at hS
    have:=hS m j h3 h1 hj
    rw[h2,h4]at this;exact this
   clear hu hc b3 hx hrd hS
   rcases hq:ltS x.1 s
   ·have HQ:=hid hq
    have hcv:decide (cmpS x.1 s<0)=false:=by
     unfold cmpS;rw[hq];simp only[Bool.false_eq_true,if_false];split<;>decide
    clear hq
    have HN:Hid (∀ (j:Nat) y,m<=j->ks[j]?=some y->ltS y.1 s=false):=fun j y hj hy=>by
     by_cases hjm:j=m
     ·subst hjm;have h2:=HX.out;rw[hy]at h2;cases h2;exact HQ.out
     ·cases hys:ltS y.1 s
      ·rfl
      ·have h3:=ZI (HGT.out j y (by omega) hy) hys
       rw[HQ.out]at h3;cases h3
    go_wp2_with (go_at_fn 180;refine hcall.mono ?_;rintro e w1 ⟨rfl,hb1⟩)
    go_roundw
    case rel=>exact⟨lo,m,hm1,by omega,rfl,by go_num,HLO.out,HN.out,hb.trans (hb1.mono hsz)⟩
    case measure=>simp[intOf];omega
   ·have HQ:=hid hq
    have hcv:decide (cmpS x.1 s<0)=true:=by unfold cmpS;rw[hq,if_pos rfl];decide
    clear hq
    have HN:Hid (∀ (j:Nat) y,j<m+1->ks[j]?=some y->ltS y.1 s=true):=fun j y hj hy=>by
     by_cases hjm:j=m
     ·subst hjm;have h2:=HX.out;rw[hy]at h2;cases h2;exact HQ.out
     ·exact ZI (HLT.out j y (by omega) hy) HQ.out
    go_wp2_with (go_at_fn 180;refine hcall.mono ?_;rintro e w1 ⟨rfl,hb1⟩)
    go_roundw
    case rel=>exact⟨m+1,hi,by omega,hhn,by go_num,rfl,HN.out,HHI.out,hb.trans (hb1.mono hsz)⟩
    case measure=>simp[intOf];omega
  ·obtain rfl:lo=hi:=by omega
   by_cases hn:lo<ks.length
   ·obtain⟨x,hx⟩:∃ x,ks[lo]?=some x:=⟨_,List.getElem?_eq_getElem hn⟩
    obtain⟨b,off,rfl,hbB,hc⟩:=b3 (by rintro rfl;simp at hn)
    obtain⟨cs,⟨ve,vk,rfl,hok,hrd⟩,_,hu⟩:=hc lo _ hx
    obtain⟨A3,n3,A4,n4,rfl,rfl⟩:=Qk hrd
    have e0:wr.cell? ⟨b,off+lo*3,none⟩=some (.string x.1):=(hb.cell hbB).trans (hu 0 _ rfl)
    have e1:wr.cell? ⟨b,off+lo*3+1,none⟩=some (.slice A3 x.2.es.length n3):=(hb.cell hbB).trans (hu 1 _ rfl)
    have e2:wr.cell? ⟨b,off+lo*3+2,none⟩=some (.slice A4 x.2.ks.length n4):=(hb.cell hbB).trans (hu 2 _ rfl)
    have hcall:=Y1 x.1 s A3 A4 x.2.es.length n3 x.2.ks.length n4 wr
    have eg:=ZO
    have h0:=HHI.out lo x (Nat.le_refl _) hx
    have HX:=hid hx
    have HGT:Hid (∀ (j:Nat) y,lo<j->ks[j]?=some y->ltS x.1 y.1=true):=fun j y hj hy=>by
     obtain⟨h1,h2⟩:=List.getElem?_eq_some_iff.1 hy
     obtain⟨h3,h4⟩:=List.getElem?_eq_some_iff.1 hx
     rw[List.pairwise_iff_getElem]at hS
     have:=hS lo j h3 h1 hj
     rw[h2,h4]at this;exact this
    have H0:=hid h0
    clear hu hc b3 hx hrd hS
    rcases hq:ltS s x.1
    ·have HE:Hid (x.1=s):=KY h0 hq
     have hcv:(cmpS x.1 s==0)=true:=by unfold cmpS;rw[h0,hq];rfl
     clear h0 hq
     go_wp2_with (go_at_fn 180;refine hcall.mono ?_;rintro e w1 ⟨rfl,hb1⟩)
     go_ret2
     exact⟨.inl ⟨lo,x.2,rfl,by rw[HX.out,←HE.out]⟩,hb.trans (hb1.mono hsz)⟩
    ·have HQ:=hid hq
     have hcv:(cmpS x.1 s==0)=false:=by unfold cmpS;rw[h0,hq];rfl
     clear h0 hq
     go_wp2_with (go_at_fn 180;refine hcall.mono ?_;rintro e w1 ⟨rfl,hb1⟩)
     go_ret2
     refine⟨.inr ⟨lo,rfl,fun t ht=>?_⟩,hb.trans (hb1.mono hsz)⟩
     obtain⟨j,hj⟩:=List.getElem?_of_mem ht
     rcases Nat.lt_trichotomy j lo with h1|h1|h1
     ·have:=HLO.out j _ h1 hj;rw[QR]at this;cases this
     ·subst h1;have h2:=HX.out;rw[hj]at h2;cases h2;have:=HQ.out;rw[QR]at this;cases this
     ·have h2:=HGT.out j _ h1 hj;have h3:=H0.out;rw[h2]at h3;cases h3
   ·obtain rfl:lo=ks.length:=by omega
    clear b3 hS
    go_wp2_with fail
    go_ret2
    refine⟨.inr ⟨ks.length,rfl,fun t ht=>?_⟩,hb⟩
    obtain⟨j,hj⟩:=List.getElem?_of_mem ht
    have:=HLO.out j _ (List.getElem?_eq_some_iff.1 hj).1 hj;rw[QR]at this;cases this
def Vj (g:Nat)(lb:Array Value)(p:ByteArray->Bool)(w:World):Prop:=
 (∀ args W,(callFunc g args).run Tryz.prog W=.ok (.enter g args) W) /\
 ∀ (x:ByteArray) (A A':Option Addr) (n c n' c':Nat) (W:World),x.size<=Big->Below w.heap.size w W->Calls Tryz.prog g (#[.agg #[.string x,.slice A n c,.slice A' n' c']]++lb) W fun e w'=>e=.returned (.bool (p x))/\Below W.heap.size W w'
theorem Kt (p:ByteArray->Bool)(g:Nat)(lb:Array Value)(l:List Kd)(v:Value)(w:World)(h:SlP w w.heap.size 3 (KdE w w.heap.size) v l)(ht:Vj g lb p w) :
  Calls Tryz.prog 120 #[v,.func (.func g) #[] lb] w fun e w'=>e=.returned (.int .i64 (idxI (fun y=>p y.1) l))/\Below w.heap.size w w':=by
 obtain⟨A,n,rfl,b1,b2,b3⟩:=h
 obtain⟨eg,ht⟩:=ht
 unfold Big at b2
 go_enter Tryz.func120,Tryz.ntmps120
 go_wp2_with fail
 go_loopw [8] (fun i wr=>∃ k:Nat,k<=l.length/\i=.int .i64 k/\Hid (∀ (j:Nat) y,j<k->l[j]?=some y->(fun y=>p y.1) y=false)/\Below w.heap.size w wr) (fun i _=>l.length-(intOf i).toNat)
 case atStart=>exact⟨0,Nat.zero_le _,rfl,fun j y hj=>absurd hj (Nat.not_lt_zero _),Below.refl _ _⟩
 case round=>
  obtain⟨k,hk,rfl,hrel,hb⟩:=hrel
  have hsz:=hb.size
  by_cases hlt:k<l.length
  ·obtain⟨x,hx⟩:∃ x,l[k]?=some x:=⟨_,List.getElem?_eq_getElem hlt⟩
   obtain⟨b,off,rfl,hbB,hc⟩:=b3 (by rintro rfl;simp at hlt)
   obtain⟨cs,⟨ve,vk,rfl,hok,hrd⟩,_,hu⟩:=hc k _ hx
   obtain⟨A3,n3,A4,n4,rfl,rfl⟩:=Qk hrd
   have e0:wr.cell? ⟨b,off+k*3,none⟩=some (.string x.1):=(hb.cell hbB).trans (hu 0 _ rfl)
   have e1:wr.cell? ⟨b,off+k*3+1,none⟩=some (.slice A3 x.2.es.length n3):=(hb.cell hbB).trans (hu 1 _ rfl)
   have e2:wr.cell? ⟨b,off+k*3+2,none⟩=some (.slice A4 x.2.ks.length n4):=(hb.cell hbB).trans (hu 2 _ rfl)
   have hcall:=ht x.1 A3 A4 x.2.es.length n3 x.2.ks.length n4 wr hok hb
   have HX:=hid hx
   have hpx:(fun y=>p y.1) x=p x.1:=rfl
   clear hu hx hc b3 ht
   cases hq:p x.1
   ·have HQ:Hid ((fun y=>p y.1) x=false):=hpx.trans hq
    rw[hq]at hcall
    clear hq hpx
    go_wp2_with (go_at_fn g;refine hcall.mono ?_;rintro e w1 ⟨rfl,hb1⟩)
    go_roundw
    case rel=>
     refine⟨k+1,by omega,by go_num,fun j y hj hy=>?_,hb.trans (hb1.mono hsz)⟩
     by_cases hjk:j=k
     ·subst hjk;have h2:=HX.out;rw[hy]at h2;cases h2;exact HQ.out
     ·exact hrel.out j y (by omega) hy
    case measure=>simp[intOf];omega
   ·have HQ:Hid ((fun y=>p y.1) x=true):=hpx.trans hq
    rw[hq]at hcall
    clear hq hpx
    go_wp2_with (go_at_fn g;refine hcall.mono ?_;rintro e w1 ⟨rfl,hb1⟩)
    go_ret
    exact⟨QC (Xo hrel.out HX.out HQ.out).symm,hb.trans (hb1.mono hsz)⟩
  ·obtain rfl:k=l.length:=by omega
   go_wp2_with fail
   go_ret
   exact⟨QC (Yw hrel.out).symm,hb⟩
theorem ZP {t:Tr}{w:World}{B:Nat}{ve vk:Value}(h:t.rd w B ve vk):SlP w B 3 (KdE w B) vk t.ks:=by
 obtain⟨es,ks⟩:=t;exact (QB.1 h).2
def RetS (w:World)(t:Tr)(e:Ending)(w':World):Prop:=
 ∃ ve vk,e=.returned (.agg #[ve,vk])/\t.rd w w.heap.size ve vk/\Below w.heap.size w w'
theorem Yo (t:Tr)(s:ByteArray)(ve vk:Value)(w:World)(h:t.rd w w.heap.size ve vk)(ho:t.Ord) :
  Calls Tryz.prog 156 #[.agg #[ve,vk],.string s] w (RetS w (kidT t s)):=by
 have HD:=hid h
 have hS:t.ks.Pairwise fun a b=>ltS a.1 b.1=true:=by obtain⟨es,ks⟩:=t;exact (Zn.1 ho).2.1
 have HO:=hid ho
 obtain⟨A3,n3,A4,n4,rfl,rfl⟩:=Qk h
 have hb0:Below w.heap.size w ((w.alloc (.cells #[.slice A3 t.es.length n3,.slice A4 t.ks.length n4] 25)).alloc (.cells #[.slice none 0 0,.slice none 0 0] 25)):=((Below.refl _ w).alloc (Nat.le_refl _) _).alloc (by simp) _
 have hkl:t.ks.length<=140737488355328:=by
  have h1:=HD.out;obtain⟨es,ks⟩:=t;obtain⟨_,_,_,_,h2,_⟩:=(QB.1 h1).2;exact h2
 clear h
 go_enter Tryz.func156,Tryz.ntmps156
 go_wp2_with fail
 refine (qZb t.ks s _ _ (ZP (Qi hb0 hb0.size t _ _ HD.out)) hS).mono ?_
 rintro e w1 ⟨he,hb1⟩
 have hs1:=hb1.size
 simp only[World.size_alloc]at hs1
 have hB1:Below w.heap.size w w1:=hb0.trans (hb1.mono (by simp;omega))
 have g2:=(hb1.block w.heap.size (by simp;omega)).trans ((Qh (by simp)).trans (Qf (o:=.cells #[.slice A3 t.es.length n3,.slice A4 t.ks.length n4] 25) rfl))
 have g4:=(hb1.block (w.heap.size+1) (by simp)).trans (Qf (w:=w.alloc (.cells #[.slice A3 t.es.length n3,.slice A4 t.ks.length n4] 25)) (by simp))
 have HG4:=hid g4
 have c0:=Qa (i:=0) g2
 have c1:=Qa (i:=1) g2
 obtain⟨k0,k1,z0,z1⟩:=bz2 g4
 try simp only[List.getElem?_toArray,List.getElem?_cons_zero,List.getElem?_cons_succ]at c0 c1 k0 k1
 clear g2 g4 hS hb1
 rcases he with⟨i,u,rfl,hi⟩|⟨i,rfl,hn⟩
 ·have hil:i<t.ks.length:=(List.getElem?_eq_some_iff.1 hi).1
  have hKT:kidT t s=u:=Xv HO.out (List.mem_of_getElem? hi)
  obtain⟨b',off',rfl,hbB',vAe,vne,vAk,vnk,HRV,q1,q2⟩:∃ b' off',A4=some ⟨b',off',none⟩/\b'<w.heap.size/\∃ vAe vne vAk vnk,Hid (u.rd w w.heap.size (.slice vAe u.es.length vne) (.slice vAk u.ks.length vnk))/\w1.cell? ⟨b',off'+i*3+1,none⟩=some (.slice vAe u.es.length vne)/\w1.cell? ⟨b',off'+i*3+2,none⟩=some (.slice vAk u.ks.length vnk):=by
   have h1:=HD.out
   obtain⟨es,ks⟩:=t
   obtain⟨Ak',ck',he,_,_,h3⟩:=(QB.1 h1).2
   cases he
   obtain⟨b',off',rfl,hbB',hc'⟩:=h3 (by rintro rfl;simp[Tr.ks]at hil)
   obtain⟨cs,⟨ve',vk',rfl,_,hrd'⟩,_,hu'⟩:=hc' i _ hi
   obtain⟨vAe,vne,vAk,vnk,rfl,rfl⟩:=Qk hrd'
   exact⟨b',off',rfl,hbB',vAe,vne,vAk,vnk,hrd',(hB1.cell (p:=⟨b',off'+i*3+1,none⟩) hbB').trans (hu' 1 _ rfl),(hB1.cell (p:=⟨b',off'+i*3+2,none⟩) hbB').trans (hu' 2 _ rfl)⟩
  have HKT:=hid hKT
  clear hi hKT
  go_wp2_with fail
  have hW0:=Qe (i:=1) (Qe (i:=0) HG4.out (.slice vAe u.es.length vne)) (.slice vAk u.ks.length vnk)
  have r0:=(Qa (i:=0) hW0).trans (show _=some (.slice vAe u.es.length vne) by simp)
  have r1:=(Qa (i:=1) hW0).trans (show _=some (.slice vAk u.ks.length vnk) by simp)
  refine bodyPost_ret (v:=.agg #[.slice vAe u.es.length vne,.slice vAk u.ks.length vnk]) (by simp[results,Tryz.results156,go_sem,r0,r1]) rfl ⟨_,_,rfl,(by rw[HKT.out];exact HRV.out),(hB1.setCell (by simp) _).setCell (by simp) _⟩
 ·have HKT:Hid (kidT t s=.mk [] []):=Yy hn
  go_wp2_with fail
  have hW0:=Qe (i:=1) (Qe (i:=0) HG4.out (.slice none 0 0)) (.slice none 0 0)
  have r0:=(Qa (i:=0) hW0).trans (show _=some (.slice none 0 0) by simp)
  have r1:=(Qa (i:=1) hW0).trans (show _=some (.slice none 0 0) by simp)
  refine bodyPost_ret (v:=.agg #[.slice none 0 0,.slice none 0 0]) (by simp[results,Tryz.results156,go_sem,r0,r1]) rfl ⟨_,_,rfl,(by rw[HKT.out];exact Xi),(hB1.setCell (by simp) _).setCell (by simp) _⟩
theorem J7:∀ (c:List Sp) (L:Int),c.Pairwise (fun a b=>a.dc<=b.dc)->(∀ s∈c,L<=s.dc/\s.dc<4)->dcsOk L c=true
 |[],_,_,_=>rfl
 |s :: c,L,hp,ha=>by
  rw[List.pairwise_cons]at hp
  rw[dcsOk,J7 c s.dc hp.2 (fun x hx=>⟨hp.1 x hx,(ha x (by simp[hx])).2⟩)]
  have:=ha s (by simp)
  simp[this]
theorem ZT (ls:Nat->List (Int×Int)):∀ k,∀ s∈Qv ls k,0<=s.dc/\s.dc<k
 |0,s,h=>by simp[Qv]at h
 |k+1,s,h=>by
  rw[QW]at h
  rcases List.mem_append.1 h with h|h
  ·have:=ZT ls k s h;omega
  ·obtain⟨r,_,rfl⟩:=List.mem_map.1 h
   show 0<=(k:Int)/\(k:Int)<_
   omega
theorem XW (ls:Nat->List (Int×Int)):∀ k,(Qv ls k).Pairwise fun a b=>a.dc<=b.dc
 |0=>by simp[Qv]
 |k+1=>by
  rw[QW,List.pairwise_append]
  refine⟨XW ls k,?_,fun a ha b hb=>?_⟩
  ·unfold Qr
   rw[List.pairwise_map]
   exact List.pairwise_of_forall fun _ _=>Int.le_refl _
  ·obtain⟨r,_,rfl⟩:=List.mem_map.1 hb
   have:=ZT ls k a ha
   show a.dc<=(k:Int)
   omega
theorem XX (a b:List Sp)(dc:Int):partL (a++b) dc=partL a dc++partL b dc:=by simp[partL]
theorem YJ (l:List (Int×Int))(d dc:Int):partL (Qr d l) dc=if d=dc then l else []:=by
 unfold partL Qr
 rw[List.filter_map,List.map_map]
 by_cases e:d=dc
 ·rw[if_pos e]
  rw[List.filter_eq_self.2 (fun x _=>by simp[e])]
  exact List.map_id'' (fun x=>rfl) l
 ·rw[if_neg e,List.filter_eq_nil_iff.2 (fun x _=>by simp[e])];rfl
theorem Zf (ls:Nat->List (Int×Int)):∀ (k d:Nat),partL (Qv ls k) d=if d<k then ls d else []
 |0,d=>by simp[Qv,partL]
 |k+1,d=>by
  rw[QW,XX,Zf ls k d,YJ]
  by_cases e:d=k
  ·subst e;rw[if_neg (Nat.lt_irrefl _),if_pos rfl,if_pos (Nat.lt_succ_self _)];rfl
  ·rw[if_neg (show ¬(k:Int)=(d:Int) by omega),List.append_nil]
   by_cases h:d<k
   ·rw[if_pos h,if_pos (by omega)]
   ·rw[if_neg h,if_neg (by omega)]
theorem YK {ls:Nat->List (Int×Int)}(h:∀ i,i<4->runsR none (ls i)=true):Qm (Qv ls 4)=true:=by
 unfold Qm
 rw[J7 _ 0 (XW ls 4) (fun s hs=>by have:=ZT ls 4 s hs;omega),Bool.true_and,List.all_eq_true]
 intro i hi
 have hi4:i<4:=List.mem_range.1 hi
 rw[Zf,if_pos hi4]
 exact h i hi4
theorem qQb {ls ms:Nat->List (Int×Int)}(h:∀ i,i<4->ls i=ms i):Qv ls 4=Qv ms 4:=by
 unfold Qv
 rw[List.flatMap_def,List.flatMap_def]
 congr 1
 apply List.map_congr_left
 intro i hi
 rw[h i (List.mem_range.1 hi)]
theorem YL (l:List Dt):ctxOf l=Qv (fun i=>ofL (numsL l i)) 4:=rfl
theorem Ju {l:List Dt}(h:∀ d∈l,d.right=true)(dc:Int):∀ x∈numsL l dc,1<=x/\x<=1099511627776:=fun x hx=>by
 unfold numsL at hx
 obtain⟨d,hd,rfl⟩:=List.mem_map.1 hx
 have h1:=h d (List.mem_filter.1 hd).1
 simp[Dt.right]at h1
 omega
theorem Zg {l:List Dt}(h:∀ d∈l,d.right=true):Qm (ctxOf l)=true:=by
 rw[YL]
 exact YK fun i _=>(ZQ (Ju h i)).1
theorem Kw (l:List Dt){d:Nat}(hd:d<4):partL (ctxOf l) d=ofL (numsL l d):=by
 rw[YL,Zf,if_pos hd]
theorem Y8 {l:List Dt}(h:∀ d∈l,d.right=true){d:Dt}(hd:d.right=true):hasC (ctxOf l) d=decide (d∈l):=by
 have hb:0<=d.dc/\d.dc<4:=by simp[Dt.right]at hd;omega
 obtain⟨n,hn⟩:∃ n:Nat,d.dc=(n:Int):=⟨d.dc.toNat,by omega⟩
 unfold hasC
 rw[hd,Bool.true_and,hn,Kw l (by omega),Bool.eq_iff_iff,(ZQ (Ju h n)).2,decide_eq_true_eq]
 unfold numsL
 rw[List.mem_map]
 constructor
 ·rintro⟨x,hx,he⟩
  obtain⟨hx1,hx2⟩:=List.mem_filter.1 hx
  have:x=d:=by cases x;cases d;simp at *;exact⟨hx2.trans hn.symm,he⟩
  rw[←this];exact hx1
 ·intro hm
  exact⟨d,List.mem_filter.2 ⟨hm,by simp[hn]⟩,rfl⟩
theorem qQh {d:Dt}(h:d.right=true):(0<=d.dc/\d.dc<4)/\1<=d.n/\d.n<=1099511627776:=by simpa[Dt.right,and_assoc] using h
theorem YM (a b:List Sp)(how:Int):ctxBy a b how=Qv (fun i=>byL (partL a i) (partL b i) how) 4:=rfl
theorem XB:∀ (l:List (Int×Int)) (p:Option Int),runsR p l=true->∀ r∈l,runOk r
 |x :: l,p,h,r,hr=>by
  rw[Qp]at h
  rcases List.mem_cons.1 hr with rfl|hr
  ·exact h.1
  ·exact XB l _ h.2.2 r hr
theorem QT {c:List Sp}(h:Qm c=true){i:Nat}(hi:i<4):runsR none (partL c i)=true:=by
 unfold Qm at h
 rw[Bool.and_eq_true,List.all_eq_true]at h
 exact h.2 i (List.mem_range.2 hi)
theorem ZU:∀ (c:List Sp) (L:Int),dcsOk L c=true->∀ s∈c,L<=s.dc/\s.dc<4
 |s :: c,L,h,x,hx=>by
  rw[dcsOk,Bool.and_eq_true,Bool.and_eq_true,decide_eq_true_eq,decide_eq_true_eq]at h
  rcases List.mem_cons.1 hx with rfl|hx
  ·exact⟨h.1.1,h.1.2⟩
  ·have:=ZU c s.dc h.2 x hx;exact⟨by omega,this.2⟩
theorem X4:∀ (c:List Sp) (L:Nat),dcsOk (L:Int) c=true->∀ n,L+n=4->c=(List.range' L n).flatMap fun (dc:Nat)=>Qr (dc:Int) (partL c (dc:Int))
 |c,L,h,0,hn=>by
  cases c with
  |nil=>rfl
  |cons s c=>have:=ZU _ _ h s (by simp);omega
 |c,L,h,n+1,hn=>by
  rw[List.range'_succ,List.flatMap_cons]
  have key:∀ (c:List Sp) (L:Int),dcsOk L c=true->∃ c',c=Qr L (partL c L)++c'/\dcsOk (L+1) c'=true:=by
   intro c
   induction c with
   |nil=>intro L _;exact⟨[],by simp[partL,Qr],rfl⟩
   |cons s c ih=>
    intro L h
    rw[dcsOk,Bool.and_eq_true,Bool.and_eq_true,decide_eq_true_eq,decide_eq_true_eq]at h
    obtain⟨⟨h1,h2⟩,h3⟩:=h
    by_cases e:s.dc=L
    ·rw[e]at h3
     obtain⟨c',hc,hd⟩:=ih L h3
     refine⟨c',?_,hd⟩
     have hp:partL (s :: c) L=(s.fr,s.hi) :: partL c L:=by simp[partL,e]
     rw[hp]
     conv=>lhs;rw[hc]
     unfold Qr
     rw[List.map_cons,List.cons_append]
     congr 1
     cases s;simp at e;simp[e]
    ·refine⟨s :: c,?_,?_⟩
     ·have hp:partL (s :: c) L=[]:=by
       unfold partL
       rw[List.filter_eq_nil_iff.2,List.map_nil]
       intro x hx
       have:s.dc<=x.dc:=by
        rcases List.mem_cons.1 hx with rfl|hx
        ·exact Int.le_refl _
        ·exact (ZU c s.dc h3 x hx).1
       simp;omega
      rw[hp];rfl
     ·rw[dcsOk,h3];simp;omega
  obtain⟨c',hc,hd⟩:=key c L h
  have ih:=X4 c' (L+1) (by exact_mod_cast hd) n (by omega)
  have hpc:∀ dc:Nat,L+1<=dc->partL c dc=partL c' dc:=fun dc hdc=>by
   rw[hc,XX,YJ,if_neg (by omega)];rfl
  conv=>lhs;rw[hc,ih]
  congr 1
  rw[List.flatMap_def,List.flatMap_def]
  congr 1
  apply List.map_congr_left
  intro i hi
  rw[hpc i (by have:=List.mem_range'_1.1 hi;omega)]
theorem Xb {c:List Sp}(h:Qm c=true):Qv (fun i=>partL c i) 4=c:=by
 unfold Qm at h
 rw[Bool.and_eq_true]at h
 have:=X4 c 0 h.1 4 rfl
 unfold Qv
 rw[List.range_eq_range']
 exact this.symm
theorem qZo (w:World):(zeroValue 96).run Tryz.prog w=.ok (.agg #[.string ByteArray.empty,.slice none 0 0,.slice none 0 0]) w:=by kernel_rfl
theorem Jh {P:Program}{ops:Array Oper}{rest:List Oper}{o:Oper}{a:Act}{Q:Exit->Act->World->Prop}{w:World}(hg:o.guard=none)(x:Operand)(t e:TypeId)
  (hop:o.op=.call { callee:=.builtin .clear,args:=#[x],argTypes:=#[t] }){z:Value}(ht:P.underlying t=some (.slice e)) (hv:∀ w,(zeroValue e).run P w=.ok z w) (h1:∀ u∈z.cells,u.oneCell'=true){b off n c sz:Nat}(hx:a.eval x=.slice (some ⟨b,off,none⟩) n c) (hsz:z.cells.size=sz) (hz:0<sz) (hn:0<n)
  (hc:∀ j,j<n*sz->(w.cell? ⟨b,off+j,none⟩).isSome=true) (hf:∀ j,j<n*sz->w.frozen? ⟨b,off+j,none⟩=false)
  (h:∀ vs:List Value,vs.length=n*sz->wpList P ops Q rest (a.put o.dst (.tuple #[])) (w.setCells b off vs)):wpList P ops Q (o :: rest) a w:=by
 refine wpList_plain hg fun K hK=>?_
 have hl:(Builtin.zeroCells z.cells n).toList.length=n*sz:=by simp[Builtin.zeroCells,hsz]
 have hst:=run_storeCells_cells (P:=P) b off (Builtin.zeroCells z.cells n).toList 0 w (by rw[hl];simpa using hc) (by rw[hl];simpa using hf) (by
  intro v hv'
  obtain⟨j,hj,rfl⟩:=List.getElem_of_mem hv'
  simp only[Builtin.zeroCells,Array.toList_map,List.getElem_map]
  have hm:∀ q,q % z.cells.size<z.cells.size:=fun q=>Nat.mod_lt _ (by omega)
  rw[getElem!_pos z.cells _ (hm _)]
  exact h1 _ (Array.getElem_mem _))
 simp only[Nat.add_zero]at hst
 obtain⟨m,rfl⟩:∃ m,n=m+1:=⟨n-1,by omega⟩
 have r1:(Builtin.clear_ #[t] o.type #[.slice (some ⟨b,off,none⟩) (m+1) c]).run P w=.ok (.tuple #[]) (w.setCells b off (Builtin.zeroCells z.cells (m+1)).toList):=by
  simp[Builtin.clear_,run_underlying ht,hv,hst]
 unfold Oper.wp execOp
 simp only[hop,resolve,invoke,builtin,Sem.run_bind,Sem.run_pure,Result.andThen_ok,List.map_toArray,List.map_cons,List.map_nil,hx,r1]
 exact hK _ _ (h _ hl)
def Kh (g:Nat)(lb:Array Value)(p:ByteArray->Bool)(w:World)(base:Nat):Prop:=
 (∀ args W,(callFunc g args).run Tryz.prog W=.ok (.enter g args) W) /\
 ∀ (x:ByteArray) (A A':Option Addr) (n c n' c':Nat) (W:World),x.size<=Big->Below base w W->Calls Tryz.prog g (#[.agg #[.string x,.slice A n c,.slice A' n' c']]++lb) W fun e w'=>e=.returned (.bool (p x))/\Below W.heap.size W w'
theorem Kh.kid {g:Nat}{lb:Array Value}{p:ByteArray->Bool}{w:World}{base:Nat}(h:Kh g lb p w base)(hb:base<=w.heap.size):Vj g lb p w:=⟨h.1,fun x A A' n c n' c' W hx hW=>h.2 x A A' n c n' c' W hx (hW.mono hb)⟩
def kp (p:ByteArray->Bool)(ks:List Kd):List Kd:=ks.filter fun y=>!p y.1
theorem VK {p:ByteArray->Bool}{l:List Kd}{k:Nat}{x:Kd}(h:l[k]?=some x):kp p (l.take (k+1))=kp p (l.take k)++(if p x.1 then [] else [x]):=by
 unfold kp
 rw[List.take_add_one,h,List.filter_append]
 cases hx:p x.1<;>simp[hx]
theorem set3 {css:List (List Value)}(h:∀ c∈css,c.length=3){i:Nat}{a b c:Value}(hi:i<css.length):((css.flatten.set (i*3) a).set (i*3+1) b).set (i*3+2) c=(css.set i [a,b,c]).flatten:=by
 have hlen:∀ q∈css.set i [a,b,c],q.length=3:=fun q hq=>by
  rcases List.mem_or_eq_of_mem_set hq with h'|h'
  ·exact h q h'
  ·rw[h'];rfl
 have hfl:=Zd css h
 apply List.ext_getElem?
 intro j
 have hd:j=j / 3*3+j % 3:=by omega
 have hm:j % 3<3:=by omega
 have a1:=QN css h (j / 3) (j % 3) hm
 have a2:=QN _ hlen (j / 3) (j % 3) hm
 rw[←hd]at a1 a2
 rw[a2,List.getElem?_set,List.getElem?_set,List.getElem?_set,List.getElem?_set,a1]
 by_cases hj:j / 3=i
 ·have hj3:j % 3=0∨j % 3=1∨j % 3=2:=by omega
  rw[if_pos hj.symm,if_pos hi]
  rcases hj3 with h3|h3|h3<;>rw[h3]
  ·rw[if_neg (by omega),if_neg (by omega),if_pos (by omega),if_pos (by simp[hfl];omega)];rfl
  ·rw[if_neg (by omega),if_pos (by omega),if_pos (by simp[hfl];omega)];rfl
  ·rw[if_pos (by omega),if_pos (by simp[hfl];omega)];rfl
 ·rw[if_neg (by omega),if_neg (by omega),if_neg (by omega),if_neg (fun e=>hj e.symm)]
def RowK (wr:World)(base:Nat)(g n cap:Nat)(E:Kd->List Value->Prop)(done:List Kd)(m:Nat)(css0:List (List Value)):Prop:=
 ∃ css:List (List Value),css.length=n/\(∀ c∈css,c.length=3)/\(∀ (q:Nat) x,done[q]?=some x->∃ cs,css[q]?=some cs/\E x cs/\cs.length=3)/\(∀ q:Nat,m<=q->css[q]?=css0[q]?)/\wr.ownsRow base 96 3 (.slice (some ⟨g,0,none⟩) n cap) n css.flatten
theorem RowK.cell {wr:World}{base g n cap m:Nat}{E:Kd->List Value->Prop}{done:List Kd}{css0:List (List Value)}(h:RowK wr base g n cap E done m css0){q:Nat}(hq:m<=q)(hn:q<n){cs:List Value}(hc:css0[q]?=some cs){i:Nat}{u:Value}(hi:cs[i]?=some u)(hi3:i<3):wr.cell? ⟨g,q*3+i,none⟩=some u:=by
 obtain⟨css,h1,h2,h3,h4,h5⟩:=h
 rw[h5.cellAt (q*3+i) (by omega),QN css h2 q i hi3,h4 q hq,hc]
 exact hi
theorem RowK.wr {wr:World}{base g n cap m:Nat}{E:Kd->List Value->Prop}{done:List Kd}{css0:List (List Value)}(h:RowK wr base g n cap E done m css0){j:Nat}(hj:j<n*3):(wr.cell? ⟨g,j,none⟩).isSome=true:=by
 obtain⟨css,h1,h2,h3,h4,h5⟩:=h
 rw[h5.cellAt j hj,List.getElem?_eq_getElem (show j<css.flatten.length by rw[Zd css h2,h1];exact hj)];rfl
theorem RowK.frz {wr:World}{base g n cap m:Nat}{E:Kd->List Value->Prop}{done:List Kd}{css0:List (List Value)}(h:RowK wr base g n cap E done m css0)(j:Nat):wr.frozen? ⟨g,j,none⟩=false:=by
 obtain⟨css,h1,h2,h3,h4,h5⟩:=h
 exact h5.frozenAt j
theorem RowK.keep {wr w':World}{base g n cap m:Nat}{E:Kd->List Value->Prop}{done:List Kd}{css0:List (List Value)}(h:RowK wr base g n cap E done m css0)(hk:w'.heap[g]?=wr.heap[g]?):RowK w' base g n cap E done m css0:=by
 obtain⟨css,h1,h2,h3,h4,h5,h6⟩:=h
 refine⟨css,h1,h2,h3,h4,h5,?_⟩
 rcases h6 with h6|⟨g',cap',cur,hv,hb,hg,r⟩
 ·exact .inl h6
 ·simp only[Value.slice.injEq,Option.some.injEq,Addr.mk.injEq]at hv
  obtain⟨⟨rfl,_⟩,_,rfl⟩:=hv
  exact .inr ⟨g,cap,cur,rfl,hb,by rw[hk];exact hg,r⟩
theorem RowK.skip {wr:World}{base g n cap m:Nat}{E:Kd->List Value->Prop}{done:List Kd}{css0:List (List Value)}(h:RowK wr base g n cap E done m css0):RowK wr base g n cap E done (m+1) css0:=by
 obtain⟨css,h1,h2,h3,h4,h5⟩:=h
 exact⟨css,h1,h2,h3,fun q hq=>h4 q (by omega),h5⟩
theorem RowK.put {wr:World}{base g n cap m:Nat}{E:Kd->List Value->Prop}{done:List Kd}{css0:List (List Value)}(h:RowK wr base g n cap E done m css0)(hd:done.length<=m)(hn:done.length<n){x:Kd}{a b c:Value}(hE:E x [a,b,c]) :
  RowK (((wr.setCell ⟨g,done.length*3,none⟩ a).setCell ⟨g,done.length*3+1,none⟩ b).setCell ⟨g,done.length*3+2,none⟩ c) base g n cap E (done++[x]) (m+1) css0:=by
 obtain⟨css,h1,h2,h3,h4,h5⟩:=h
 refine⟨css.set done.length [a,b,c],by simp[h1],fun q hq=>?_,fun q y hy=>?_,fun q hq=>?_,?_⟩
 ·rcases List.mem_or_eq_of_mem_set hq with h'|h'
  ·exact h2 q h'
  ·rw[h'];rfl
 ·rw[List.getElem?_append]at hy
  split at hy
  ·rename_i hlt
   obtain⟨cs,e1,e2⟩:=h3 q y hy
   exact⟨cs,by rw[List.getElem?_set,if_neg (by omega)];exact e1,e2⟩
  ·rename_i hlt
   have hq:q=done.length:=by
    rcases Nat.lt_or_ge q (done.length+1) with h'|h'
    ·omega
    ·rw[List.getElem?_eq_none (by simp;omega)]at hy;cases hy
   subst hq
   simp at hy;subst hy
   exact⟨_,by rw[List.getElem?_set,if_pos rfl,if_pos (by omega)],hE,rfl⟩
 ·rw[List.getElem?_set,if_neg (by omega)];exact h4 q (by omega)
 ·rw[←set3 h2 (by omega)]
  exact (((h5.stored _ a).1.stored _ b).1.stored _ c).1
theorem Q3 (b:Nat):∀ (vs:List Value) (o:Nat) (w:World),(w.setCells b o vs).heap.size=w.heap.size
 |[],_,_=>rfl
 |v :: r,o,w=>by rw[World.setCells,Q3 b r];simp[World.setCell]
theorem Zw (b:Nat):∀ (vs:List Value) (o:Nat) (w:World){q:Nat},q≠b->(w.setCells b o vs).heap[q]?=w.heap[q]?
 |[],_,_,_,_=>rfl
 |v :: r,o,w,q,h=>by rw[World.setCells,Zw b r _ _ h];exact Below.heap_setCell _ _ _ _ h
theorem Zx {base:Nat}{w:World}(b:Nat):∀ (vs:List Value) (o:Nat) (W:World),base<=b->Below base w W->Below base w (W.setCells b o vs)
 |[],_,_,_,h=>h
 |v :: r,o,W,hb,h=>by rw[World.setCells];exact Zx b r _ _ hb (h.setCell (p:=⟨b,o,none⟩) hb v)
theorem VL (p:ByteArray->Bool)(ks:List Kd):(idxI (fun y:Kd=>p y.1) ks=-1/\kp p ks=ks)∨∃ k:Nat,idxI (fun y:Kd=>p y.1) ks=(k:Int)/\k<ks.length/\kp p (ks.take k)=ks.take k/\kp p (ks.take (k+1))=ks.take k:=by
 unfold idxI
 cases hf:ks.findIdx? (fun y:Kd=>p y.1) with
 |none=>
  refine .inl ⟨rfl,?_⟩
  rw[List.findIdx?_eq_none_iff]at hf
  exact List.filter_eq_self.2 fun y hy=>by simp[hf y hy]
 |some k=>
  obtain⟨hk,hp,hn⟩:=List.findIdx?_eq_some_iff_getElem.1 hf
  have e1:kp p (ks.take k)=ks.take k:=List.filter_eq_self.2 fun y hy=>by
   obtain⟨j,hj,rfl⟩:=List.getElem_of_mem hy
   simp at hj
   have:=hn j (by omega)
   simpa using this
  refine .inr ⟨k,rfl,hk,e1,?_⟩
  rw[VK (List.getElem?_eq_getElem hk),e1,if_pos hp];simp
theorem Ji (l:List ByteArray)(s:ByteArray)(v:Value)(w:World)(B:Nat)(h:SlP w B 1 StE v l) :
  Calls Tryz.prog 121 #[v,.string s] w fun e w'=>e=.returned (.int .i64 (idxI (fun x=>decide (s=x)) l))/\w=w':=by
 obtain⟨A,n,rfl,b1,b2,b3⟩:=h
 unfold Big at b2
 go_enter Tryz.func121,Tryz.ntmps121
 go_wp2_with fail
 go_loop [8] (fun i=>∃ k:Nat,k<=l.length/\i=.int .i64 k/\Hid (∀ (j:Nat) y,j<k->l[j]?=some y->(fun x=>decide (s=x)) y=false)) (fun i=>l.length-(intOf i).toNat)
 case atStart=>exact⟨0,Nat.zero_le _,rfl,fun j y hj=>absurd hj (Nat.not_lt_zero _)⟩
 case round=>
  obtain⟨k,hk,rfl,hrel⟩:=hrel
  by_cases hlt:k<l.length
  ·obtain⟨x,hx⟩:∃ x,l[k]?=some x:=⟨_,List.getElem?_eq_getElem hlt⟩
   obtain⟨b,off,rfl,hbB,hc⟩:=b3 (by rintro rfl;simp at hlt)
   obtain⟨cs,⟨rfl,hok⟩,_,hu⟩:=hc k _ hx
   have e0:w.cell? ⟨b,off+k,none⟩=some (.string x):=by simpa using hu 0 _ rfl
   have HX:=hid hx
   clear hu hc b3 hx
   by_cases he:s=x
   ·have HQ:Hid ((fun x=>decide (s=x)) x=true):=by unfold Hid;simpa using he
    have hq:(s.toList==x.toList)=true:=by rw[he];simp
    clear he
    go_wp2_with fail
    go_ret
    exact⟨QC (Xo hrel.out HX.out HQ.out).symm,rfl⟩
   ·have HQ:Hid ((fun x=>decide (s=x)) x=false):=by unfold Hid;simpa using he
    have hq:(s.toList==x.toList)=false:=by simp[Zl];exact he
    clear he
    go_wp2_with fail
    go_round
    case rel=>
     refine⟨k+1,by omega,by go_num,fun j y hj hy=>?_⟩
     by_cases hjk:j=k
     ·subst hjk;have h2:=HX.out;rw[hy]at h2;cases h2;exact HQ.out
     ·exact hrel.out j y (by omega) hy
    case measure=>simp[intOf];omega
  ·obtain rfl:k=l.length:=by omega
   go_wp2_with fail
   go_ret
   exact⟨QC (Yw hrel.out).symm,rfl⟩
theorem YR (l:List ByteArray)(s:ByteArray)(v:Value)(w:World)(h:SlP w w.heap.size 1 StE v l) :
  Calls Tryz.prog 75 #[v,.string s] w fun e w'=>e=.returned (.bool (l.any fun x=>decide (s=x)))/\w=w':=by
 have hbd:=K4 (fun x=>decide (s=x)) l
 have HA:=hid (JP (fun x=>decide (s=x)) l)
 obtain⟨A,n,rfl,b1,b2,b3⟩:=h
 unfold Big at b2
 go_enter Tryz.func75,Tryz.ntmps75
 go_wp2_with fail
 refine (Ji l s _ w w.heap.size ⟨A,n,rfl,b1,by unfold Big;omega,b3⟩).mono ?_
 rintro e w1 ⟨rfl,rfl⟩
 go_wp2_with fail
 go_ret
 exact⟨Qd HA.out,rfl⟩
def offK (keys:List ByteArray)(x:ByteArray):Bool:=!(keys.any fun z=>decide (x=z))
theorem JF (keys:List ByteArray)(x:ByteArray)(A A':Option Addr)(n c n' c':Nat)(B:Nat)(Al:Option Addr)(nl:Nat)(w:World)(hc:w.cell? ⟨B,0,none⟩=some (.slice Al keys.length nl))(hB:B<w.heap.size)(hk:SlP w w.heap.size 1 StE (.slice Al keys.length nl) keys) :
  Calls Tryz.prog 74 #[.agg #[.string x,.slice A n c,.slice A' n' c'],.pointer (some ⟨B,0,none⟩)] w fun e w'=>e=.returned (.bool (offK keys x))/\Below w.heap.size w w':=by
 have hne:B≠w.heap.size:=by omega
 have HC:=hid (YR keys x _ (w.alloc (.cells #[.string x,.slice A n c,.slice A' n' c'] 96)) (hk.imp ((Below.refl _ w).alloc (Nat.le_refl _) _) (by simp) fun _ _ _ h=>h))
 go_enter Tryz.func74,Tryz.ntmps74
 go_wp2_with fail
 refine HC.out.mono ?_
 rintro e w1 ⟨rfl,rfl⟩
 go_wp2_with fail
 go_ret
 exact⟨rfl,by go_grown⟩
def YS (t:Tr)(keys:List ByteArray):Tr:=if t.right 5 then .mk [] (kp (offK keys) t.ks) else .mk [] []
end Go.Proofs.YtbcoelggdikipaaGreat
namespace Go.Proofs.YtbcoelggdikipaaGreat
open Go.RowKit Go.Sort
def toBy (s:ByteArray):List UInt8:=s.data.toList
def ofBy (l:List UInt8):ByteArray:=⟨l.toArray⟩
theorem Vl (s:ByteArray):ofBy (toBy s)=s:=rfl
def srtL (ds:List ByteArray):List ByteArray:=((ds.map toBy).mergeSort fun x y=>decide (x<=y)).map ofBy
def cmpL (ds:List ByteArray):List ByteArray:=(Lib.compact (ds.map toBy)).map ofBy
theorem J3 {α:Type}(f:α->Value)(l:List α):(l.map fun x=>[f x]).flatten=l.map f:=by
 induction l with
 |nil=>rfl
 |cons x l ih=>simp[ih]
theorem J4 {w:World}{base:Nat}{e:TypeId}{v:Value}{ds:List ByteArray}(h:OwnP w base e 1 StE v ds):(v=.slice none 0 0/\ds=[]) ∨
  ∃ b cap cur,v=.slice (some ⟨b,0,none⟩) ds.length cap/\base<=b/\w.heap[b]?=some (.cells cur e (0,0))/\ds.length<=cap/\cap<=maxLen/\cur.size=cap*1/\cur.toList.take (ds.map toBy).length=(ds.map toBy).map encStr/\∀ x∈ds,x.size<=Big:=by
 obtain⟨css,h1,h2,h3⟩:=h
 rcases h3 with⟨rfl,hn⟩|⟨b,cap,cur,rfl,hb,hg,hnc,hm,hcs,ht⟩
 ·exact .inl ⟨rfl,List.eq_nil_of_length_eq_zero hn⟩
 ·refine .inr ⟨b,cap,cur,rfl,hb,hg,hnc,hm,hcs,?_,fun x hx=>?_⟩
  ·have hcss:css=ds.map fun x=>[Value.string x]:=by
    apply List.ext_getElem?
    intro j
    by_cases hj:j<ds.length
    ·obtain⟨cs,hcs,⟨hcv,_⟩,_⟩:=h1.2 j ds[j] (List.getElem?_eq_getElem hj)
     rw[hcs,List.getElem?_map,List.getElem?_eq_getElem hj,hcv];rfl
    ·rw[List.getElem?_eq_none (by rw[h1.1];omega),List.getElem?_eq_none (by simp;omega)]
   rw[Nat.mul_one,hcss,J3]at ht
   rw[List.length_map,ht,List.map_map]
   rfl
  ·obtain⟨j,hj⟩:=List.getElem?_of_mem hx
   obtain⟨cs,_,⟨_,hr⟩,_⟩:=h1.2 j x hj
   exact hr
theorem qQ3 {w:World}{base:Nat}{e:TypeId}{v:Value}{ts:List (List UInt8)}(h:w.ownsRow base e 1 v ts.length (ts.map encStr))(hs:∀ x∈ts,(ofBy x).size<=Big):OwnP w base e 1 StE v (ts.map ofBy):=by
 refine⟨ts.map fun l=>[encStr l],⟨by simp,fun j x hx=>?_⟩,?_⟩
 ·rw[List.getElem?_map]at hx
  obtain⟨y,hy,rfl⟩:=Option.map_eq_some_iff.1 hx
  exact⟨[encStr y],by rw[List.getElem?_map,hy];rfl,⟨rfl,hs y (List.mem_of_getElem? hy)⟩,rfl⟩
 ·rw[J3,List.length_map];exact h
theorem YA (ds:List ByteArray)(v:Value)(w:World)(base:Nat)(h:OwnP w base 9 1 StE v ds)(hl:ds.length<=900000)(hbase:base<=w.heap.size) :
  Calls Tryz.prog 129 #[v] w fun e w'=>e=.returned (.tuple #[])/\OwnP w' base 9 1 StE v (srtL ds)/\Below base w w':=by
 rcases J4 h with⟨rfl,rfl⟩|⟨b,cap,cur,rfl,hb,hg,hnc,hm,hcs,ht,hz⟩
 ·refine (Any.slices_Sort_string_none Tryz.sortStr none 0 w).mono ?_
  rintro e w' ⟨rfl,rfl⟩
  exact⟨rfl,by simpa[srtL] using OwnP.nil,Below.refl _ _⟩
 ·have hlt:b<w.heap.size:=(Array.getElem?_eq_some_iff.1 hg).1
  have hH:Holds encStr w b 0 (ds.map toBy).toArray:=holds_of_block hg ht
  have hcon:=Any.slices_Sort_string Tryz.sortStr b 0 cap (ds.map toBy) w hH hlt (by rw[List.length_map];omega)
  rw[List.length_map]at hcon
  refine Calls.mono hcon ?_
  rintro e w' ⟨rfl,n,os,rfl⟩
  have hp:((ds.map toBy).mergeSort fun x y=>decide (x<=y)).Perm (ds.map toBy):=List.mergeSort_perm _ _
  have hrow:=ownsRow_sorted (n:=n) (os:=os) (ss:=ds.map toBy) (ts:=(ds.map toBy).mergeSort fun x y=>decide (x<=y)) hp.length_eq hb hg (by rw[List.length_map];exact hnc) hm hcs
  rw[←hp.length_eq]at hrow
  refine⟨rfl,?_,(Below.refl base w).grown (grownBy_sorted _) hbase (fun g hg=>by cases hg;exact hb)⟩
  have hlen:((ds.map toBy).mergeSort fun x y=>decide (x<=y)).length=ds.length:=by rw[hp.length_eq,List.length_map]
  have:=qQ3 hrow (fun x hx=>by
   obtain⟨y,hy,rfl⟩:=List.mem_map.1 (hp.subset hx)
   exact hz y hy)
  rw[hlen]at this
  exact this
theorem Zv (ds:List ByteArray)(v:Value)(w:World)(base:Nat)(h:OwnP w base 9 1 StE v ds)(hl:ds.length<=900000)(hbase:base<=w.heap.size) :
  Calls Tryz.prog 130 #[v] w fun e w'=>∃ v',e=.returned v'/\OwnP w' base 9 1 StE v' (cmpL ds)/\Below base w w':=by
 rcases J4 h with⟨rfl,rfl⟩|⟨b,cap,cur,rfl,hb,hg,hnc,hm,hcs,ht,hz⟩
 ·refine (Any.slices_Compact_string_empty Tryz.compactStr none 0 w).mono ?_
  rintro e w' ⟨rfl,rfl⟩
  exact⟨_,rfl,by simpa[cmpL,Lib.compact,Lib.compactUpTo] using OwnP.nil,Below.refl _ _⟩
 ·have hlt:b<w.heap.size:=(Array.getElem?_eq_some_iff.1 hg).1
  have hH:Holds encStr w b 0 (ds.map toBy).toArray:=holds_of_block hg ht
  have hcon:=Any.slices_Compact_string Tryz.compactStr b 0 cap (ds.map toBy) w hH (by rw[List.length_map];omega) (by rw[List.length_map];exact hnc)
  rw[List.length_map]at hcon
  refine Calls.mono hcon ?_
  rintro e w' ⟨rfl,n,rfl⟩
  have hcl:=Lib.compact_length_le (ds.map toBy)
  rw[List.length_map]at hcl
  have hm2:∀ x∈Lib.compact (ds.map toBy),x∈ds.map toBy:=fun x hx=>by
   unfold Lib.compact Lib.compactUpTo at hx
   obtain⟨j,hj,rfl⟩:=List.mem_map.1 hx
   have hj':j<(ds.map toBy).length:=List.mem_range.1 (List.mem_filter.1 hj).1
   rw[getElem!_pos _ j (by simpa using hj')]
   simpa using List.getElem_mem hj'
  have hcm:cmpL ds=(Lib.compact (ds.map toBy)).map ofBy:=rfl
  rw[hcm]
  generalize Lib.compact (ds.map toBy)=ts at hcl hm2 ⊢
  refine⟨_,rfl,?_,?_⟩
  ·have hF:(ts++List.replicate (ds.length-ts.length) []).length=ds.length:=by simp;omega
   have htk:=take_putCells cur (ts++List.replicate (ds.length-ts.length) []) (by rw[hF,hcs];omega)
   have hheap:(putRow encStr (Sort.ahead w n) b 0 (ts++List.replicate (ds.length-ts.length) []).toArray).heap[b]?=some (.cells (putCells encStr 0 (ts++List.replicate (ds.length-ts.length) []).toArray cur) 9 (0,0)):=by
    simp[putRow,mapBlock,Sort.ahead,Array.getElem?_modify,hg,onCells]
   refine qQ3 (v:=.slice (some ⟨b,0,none⟩) ts.length cap) ⟨by simp,.inr ⟨b,cap,_,rfl,hb,hheap,by omega,hm,by simp[putCells,hcs],?_⟩⟩ (fun x hx=>by
    obtain⟨y,hy,rfl⟩:=List.mem_map.1 (hm2 x hx)
    exact hz y hy)
   have:=congrArg (List.take ts.length) htk
   rw[List.take_take,hF,Nat.min_eq_left hcl,←List.map_take,List.take_left]at this
   rw[Nat.mul_one];exact this
  ·refine (Below.refl base w).grown (w':=putRow encStr (Sort.ahead w n) b 0 (ts++List.replicate (ds.length-ts.length) []).toArray) (row:=some b) ⟨rfl,rfl,rfl,by simp,fun k hk hne=>?_⟩ hbase (fun g hg=>by cases hg;exact hb)
   have:b≠k:=fun e=>hne (by rw[e])
   simp[putRow,mapBlock,Sort.ahead,Array.getElem?_modify,this]
end Go.Proofs.YtbcoelggdikipaaGreat
namespace Go.Proofs.YtbcoelggdikipaaGreat
open Go.RowKit
theorem Xx (l:List ByteArray):(srtL l).length=l.length:=by unfold srtL;rw[List.length_map,(List.mergeSort_perm _ _).length_eq,List.length_map]
end Go.Proofs.YtbcoelggdikipaaGreat
namespace Go.Proofs
open Go.Shelf
def Tryz.sortRun_ren:Go.Shelf.Ren:=⟨fun|6=>183|15=>167|14=>209|28=>200|29=>201|20=>218|21=>219|22=>220|23=>221|24=>222|25=>223|26=>224|27=>225|46=>227|47=>212|48=>213|49=>228|50=>229|57=>230|n=>n,fun|22=>160|24=>167|25=>211|3=>3|39=>193|0=>0|53=>226|55=>228|4=>4|46=>219|45=>218|50=>204|5=>5|9=>9|66=>236|70=>240|76=>249|77=>250|n=>n,fun|n=>n⟩
theorem Tryz.sortRun:Go.Proofs.SlLaysF0.n6 Tryz.prog Tryz.sortRun_ren:={
 mixed:=by kernel_rfl
 f6:=⟨Tryz.f183.name,by decide,Tryz.func183.trans (congrArg some (by kernel_rfl))⟩
 f14:=⟨Tryz.f209.name,by decide,Tryz.func209.trans (congrArg some (by kernel_rfl))⟩
 f15:=Tryz.func167.trans (congrArg some (by kernel_rfl))
 f20:=⟨Tryz.f218.name,by decide,Tryz.func218.trans (congrArg some (by kernel_rfl))⟩
 f21:=⟨Tryz.f219.name,by decide,Tryz.func219.trans (congrArg some (by kernel_rfl))⟩
 f22:=⟨Tryz.f220.name,by decide,Tryz.func220.trans (congrArg some (by kernel_rfl))⟩
 f23:=⟨Tryz.f221.name,by decide,Tryz.func221.trans (congrArg some (by kernel_rfl))⟩
 f24:=⟨Tryz.f222.name,by decide,Tryz.func222.trans (congrArg some (by kernel_rfl))⟩
 f25:=⟨Tryz.f223.name,by decide,Tryz.func223.trans (congrArg some (by kernel_rfl))⟩
 f26:=⟨Tryz.f224.name,by decide,Tryz.func224.trans (congrArg some (by kernel_rfl))⟩
 f27:=⟨Tryz.f225.name,by decide,Tryz.func225.trans (congrArg some (by kernel_rfl))⟩
 f28:=Tryz.func200.trans (congrArg some (by kernel_rfl))
 f29:=Tryz.func201.trans (congrArg some (by kernel_rfl))
 f46:=⟨Tryz.f227.name,by decide,Tryz.func227.trans (congrArg some (by kernel_rfl))⟩
 f47:=Tryz.func212.trans (congrArg some (by kernel_rfl))
 f48:=Tryz.func213.trans (congrArg some (by kernel_rfl))
 f49:=⟨Tryz.f228.name,by decide,Tryz.func228.trans (congrArg some (by kernel_rfl))⟩
 f50:=⟨Tryz.f229.name,by decide,Tryz.func229.trans (congrArg some (by kernel_rfl))⟩
 f57:=⟨Tryz.f230.name,by decide,Tryz.func230.trans (congrArg some (by kernel_rfl))⟩
 t0:=Tryz.underlying0
 a0:=Tryz.isAgg0
 z0:=Tryz.sizeOf0
 v0:=Tryz.zeroValue0
 t3:=Tryz.underlying3
 a3:=Tryz.isAgg3
 z3:=Tryz.sizeOf3
 v3:=Tryz.zeroValue3
 t4:=Tryz.underlying4
 a4:=Tryz.isAgg4
 z4:=Tryz.sizeOf4
 v4:=Tryz.zeroValue4
 t5:=Tryz.underlying5
 a5:=Tryz.isAgg5
 z5:=Tryz.sizeOf5
 v5:=Tryz.zeroValue5
 t9:=Tryz.underlying9
 a9:=Tryz.isAgg9
 z9:=Tryz.sizeOf9
 v9:=Tryz.zeroValue9
 t22:=Tryz.underlying160
 a22:=Tryz.isAgg160
 z22:=Tryz.sizeOf160
 v22:=Tryz.zeroValue160
 t25:=Tryz.underlying211
 a25:=Tryz.isAgg211
 z25:=Tryz.sizeOf211
 v25:=Tryz.zeroValue211
 t39:=Tryz.underlying193
 a39:=Tryz.isAgg193
 z39:=Tryz.sizeOf193
 v39:=Tryz.zeroValue193
 t45:=Tryz.underlying218
 a45:=Tryz.isAgg218
 z45:=Tryz.sizeOf218
 v45:=Tryz.zeroValue218
 t46:=Tryz.underlying219
 a46:=Tryz.isAgg219
 z46:=Tryz.sizeOf219
 v46:=Tryz.zeroValue219
 t50:=Tryz.underlying204
 a50:=Tryz.isAgg204
 z50:=Tryz.sizeOf204
 v50:=Tryz.zeroValue204
 t53:=Tryz.underlying226
 a53:=Tryz.isAgg226
 z53:=Tryz.sizeOf226
 v53:=Tryz.zeroValue226
 t55:=Tryz.underlying228
 a55:=Tryz.isAgg228
 z55:=Tryz.sizeOf228
 v55:=Tryz.zeroValue228
 t66:=Tryz.underlying236
 a66:=Tryz.isAgg236
 z66:=Tryz.sizeOf236
 v66:=Tryz.zeroValue236
 t70:=Tryz.underlying240
 a70:=Tryz.isAgg240
 z70:=Tryz.sizeOf240
 v70:=Tryz.zeroValue240
 t76:=Tryz.underlying249
 a76:=Tryz.isAgg249
 z76:=Tryz.sizeOf249
 v76:=Tryz.zeroValue249
 t77:=Tryz.underlying250
 a77:=Tryz.isAgg250
 z77:=Tryz.sizeOf250
 v77:=Tryz.zeroValue250 }
end Go.Proofs
namespace Go.Proofs.YtbcoelggdikipaaGreat
open Go.RowKit Go.Sort
theorem Vn {w:World}{g n:Nat}{os:Array Obj}{cur:Array Value}{e:TypeId}{fr:Nat×Nat}(F:Array Value)(hb:w.heap[g]?=some (.cells cur e fr)) :
  (grow (putRow id (Sort.ahead w n) g 0 F) os).heap[g]?=some (.cells (putCells id 0 F cur) e fr):=by
 have hg:g<w.heap.size:=(Array.getElem?_eq_some_iff.1 hb).1
 rw[heap_grow_old _ _ (by simpa using hg)]
 simp[putRow,mapBlock,Sort.ahead,Array.getElem?_modify,hb,onCells]
theorem XQ {w:World}{g n:Nat}{os:Array Obj}(F:Array Value):w.grownBy (grow (putRow id (Sort.ahead w n) g 0 F) os) (some g):=by
 refine⟨rfl,rfl,rfl,by simp,fun k hk hne=>?_⟩
 rw[heap_grow_old _ _ (by simpa using hk)]
 have:g≠k:=fun e=>hne (by rw[e])
 simp[putRow,mapBlock,Sort.ahead,Array.getElem?_modify,this]
def encR {α:Type}(en:α->Int×Int)(x:α):List Value:=[.int .i64 (en x).1,.int .i64 (en x).2]
theorem YB {α:Type}[Inhabited α](en:α->Int×Int)(l:List α)(j:Nat)(hj:j<l.length*2):(l.map (encR en)).flatten[j]?=some ((encR en l[j / 2]!)[j % 2]!):=by
 have hm:j % 2<2:=Nat.mod_lt _ (by omega)
 have hd:j=j / 2*2+j % 2:=by omega
 have hf:=QN (sz:=2) (l.map (encR en)) (fun cs h=>by obtain⟨x,_,rfl⟩:=List.mem_map.1 h;rfl) (j / 2) (j % 2) hm
 rw[←hd]at hf
 have hlt:j / 2<l.length:=by omega
 rw[hf,List.getElem?_map,List.getElem?_eq_getElem hlt]
 simp only[Option.map_some,Option.bind_some]
 rw[getElem!_pos l (j / 2) hlt]
 rcases (show j % 2=0∨j % 2=1 by omega) with e|e<;>rw[e]<;>rfl
theorem YC {α:Type}[Inhabited α](en:α->Int×Int)(cf:α->α->Int)(hO:SWO (ltOf cf))(g:Nat)(eg:∀ args w,(callFunc g args).run Tryz.prog w=.ok (.enter g args) w)
  (hc:∀ (x y:α) (W:World),Calls Tryz.prog g #[.agg #[.int .i64 (en x).1,.int .i64 (en x).2],.agg #[.int .i64 (en y).1,.int .i64 (en y).2]] W fun e w'=>e=.returned (.int .i64 (cf x y))/\∃ q os',w'=grow (W.drewN q) os')
  (ds:List α) (v:Value) (w:World) (base:Nat) (h:OwnP w base 167 2 RuE v (ds.map en)) (hl:ds.length<=900000) (hbase:base<=w.heap.size) :
  Calls Tryz.prog 183 #[v,.func (.func g) #[] #[]] w fun e w'=>e=.returned (.tuple #[]) /\
   ∃ ts:List α,ts.Perm ds/\ts.Pairwise (fun a b=>0<=cf b a)/\OwnP w' base 167 2 RuE v (ts.map en)/\Below base w w':=by
 obtain⟨css,h1,h2,h3⟩:=h
 rcases h3 with⟨rfl,hn⟩|⟨b,cap,cur,rfl,hb,hg,hnc,hm,hcs,ht⟩
 ·obtain rfl:ds=[]:=by simpa using hn
  refine (AnyF.slices_SortFunc_none Tryz.sortRun none 0 (.func (.func g) #[] #[]) w).mono ?_
  rintro e w' ⟨rfl,rfl⟩
  exact⟨rfl,[],List.Perm.refl _,List.Pairwise.nil,OwnP.nil,Below.refl _ _⟩
 ·have hlt:b<w.heap.size:=(Array.getElem?_eq_some_iff.1 hg).1
  have hlen:(ds.map en).length=ds.length:=List.length_map ..
  rw[hlen]at h2 hnc ht ⊢
  have hcss:css=ds.map (encR en):=by
   apply List.ext_getElem?
   intro j
   by_cases hj:j<ds.length
   ·obtain⟨cs,hcs,⟨hcv,_⟩,_⟩:=h1.2 j (en ds[j]) (by rw[List.getElem?_map,List.getElem?_eq_getElem hj];rfl)
    rw[hcs,List.getElem?_map,List.getElem?_eq_getElem hj,hcv];rfl
   ·rw[List.getElem?_eq_none (by rw[h1.1,hlen];omega),List.getElem?_eq_none (by simp;omega)]
  have hok:∀ x∈ds,I64 (en x).1/\I64 (en x).2:=fun x hx=>by
   obtain⟨j,hj⟩:=List.getElem?_of_mem hx
   obtain⟨cs,_,⟨_,hr⟩,_⟩:=h1.2 j (en x) (by rw[List.getElem?_map,hj];rfl)
   exact hr
  have hH:HoldsK (encR en) 2 w b 0 ds.toArray:=by
   intro j hj
   have hj:j<ds.length*2:=by simpa using hj
   refine⟨?_,by simp[World.frozen?,hg]⟩
   rw[get_flatK _ _ _ _ (by simpa using hj),Nat.zero_add,show (w.cell? ⟨b,j,none⟩)=cur[j]? from by simp[World.cell?,hg]]
   have hf:=YB en ds j hj
   rw[←hcss,←ht,List.getElem?_take_of_lt hj,Array.getElem?_toList]at hf
   rw[hf];simp
  have hcon:=AnyQ.slices_SortFunc Tryz.sortRun 2 Tryz.isAgg167 Tryz.sizeOf167 (encR en) (fun _=>rfl) (fun x u hu=>by simp[encR]at hu;rcases hu with rfl|rfl<;>rfl) cf hO g #[] b 0 cap ds.toArray w eg
   (fun m os dk _ x y=>hc x y _) hH hlt (by simp;omega)
  have hcon':Calls Tryz.prog 183 #[.slice (some ⟨b,0,none⟩) ds.length cap,.func (.func g) #[] #[]] w _:=hcon
  refine hcon'.mono ?_
  rintro e w' ⟨rfl,d',n,os,hp,hs,rfl⟩
  have hsz:d'.size=ds.length:=by simpa using hp.1
  have hperm:d'.toList.Perm ds:=by
   have:=hp.2.2
   rw[show ds.toArray.extract 0 ds.toArray.size=ds.toArray by simp,show d'.extract 0 ds.toArray.size=d' by rw[show ds.toArray.size=d'.size by simp[hsz]];simp]at this
   simpa using this
  refine⟨rfl,d'.toList,hperm,?_,⟨d'.toList.map (encR en),⟨by simp,fun j x hx=>?_⟩,?_⟩,?_⟩
  ·rw[List.pairwise_iff_getElem]
   intro i j hi hj hij
   have hj':j<d'.size:=by simpa using hj
   have h4:=hs i j (Nat.zero_le _) hij (by simp;omega)
   rw[getElem!_pos d' i (by omega),getElem!_pos d' j hj']at h4
   simp only[ltOf,decide_eq_false_iff_not,Int.not_lt]at h4
   simpa using h4
  ·rw[List.getElem?_map]at hx
   obtain⟨y,hy,rfl⟩:=Option.map_eq_some_iff.1 hx
   refine⟨encR en y,by rw[List.getElem?_map,hy];rfl,⟨rfl,hok y (hperm.subset (List.mem_of_getElem? hy))⟩,rfl⟩
  ·have hlm:(d'.toList.map en).length=ds.length:=by simp[hsz]
   rw[hlm]
   refine⟨by rw[Zd (sz:=2) _ (fun cs h=>by obtain⟨x,_,rfl⟩:=List.mem_map.1 h;rfl)];simp[hsz],.inr ⟨b,cap,_,rfl,hb,Vn _ hg,hnc,hm,by simp[putCells,hcs],?_⟩⟩
   apply List.ext_getElem?
   intro j
   by_cases hj:j<ds.length*2
   ·have hjc:j<cur.size:=by rw[hcs];have:=Nat.mul_le_mul_right 2 hnc;omega
    rw[List.getElem?_take_of_lt hj,Array.getElem?_toList,YB en d'.toList j (by simp[hsz];omega)]
    simp only[putCells,Array.getElem?_mapIdx,Array.getElem?_eq_getElem hjc,Option.map_some]
    rw[if_pos ⟨Nat.zero_le _,by simp[hsz];omega⟩,Nat.sub_zero,id,get_flatK _ _ _ _ (by rw[hsz];exact hj)]
    simp only[Array.getElem!_toList]
   ·rw[List.getElem?_take_eq_none (by omega),List.getElem?_eq_none (by rw[Zd (sz:=2) _ (fun cs h=>by obtain⟨x,_,rfl⟩:=List.mem_map.1 h;rfl)];simp[hsz];omega)]
  ·exact (Below.refl base w).grown (XQ _) hbase (fun g hg=>by cases hg;exact hb)
theorem Yp (x y:Int):ltOf cmpI x y=decide (x<y):=by
 unfold ltOf cmpI
 by_cases h1:x<y
 ·simp[h1]
 ·by_cases h2:y<x<;>simp[h1,h2]
theorem swoI:SWO (ltOf cmpI) where
 irrefl x:=by rw[Yp];simp
 trans x y z h1 h2:=by rw[Yp]at *;simp at *;omega
 ntrans x y z h1 h2:=by rw[Yp]at *;simp at *;omega
theorem YI (a b:Int):0<=cmpI b a↔a<=b:=by
 unfold cmpI;split<;>(try split)<;>omega
theorem Vq (x y:Int×Int)(W:World):Calls Tryz.prog 188 #[.agg #[.int .i64 x.1,.int .i64 x.2],.agg #[.int .i64 y.1,.int .i64 y.2]] W fun e w'=>e=.returned (.int .i64 (cmpI x.1 y.1))/\∃ q os',w'=grow (W.drewN q) os':=by
 go_enter Tryz.func188,Tryz.ntmps188
 go_wp2_with (go_at_call 185;refine (ZH _ _ _).mono ?_;rintro e w' ⟨rfl,rfl⟩)
 go_ret
 exact⟨rfl,0,_,by rw[alloc_eq_grow,alloc_eq_grow,grow_grow];rfl⟩
def dup (n:Int):Int×Int:=(n,n)
theorem qZc {ns ts:List Int}(hn:∀ x∈ns,numB x=true)(hp:ts.Perm ns)(hs:ts.Pairwise fun a b=>a<=b):joinL (ts.map dup)=ofL ns:=by
 have hn':∀ x∈ns,1<=x/\x<=1099511627776:=fun x hx=>by simpa[numB] using hn x hx
 obtain⟨a1,a2⟩:=ZQ hn'
 obtain⟨b1,b2⟩:=YG (l:=ts.map dup) (fun r hr=>by
  obtain⟨x,hx,rfl⟩:=List.mem_map.1 hr
  have:=hn' x (hp.subset hx)
  exact⟨this.1,Int.le_refl _,this.2⟩) (List.pairwise_map.2 hs)
 refine YD _ _ none none b1 a1 fun n=>?_
 rw[b2,Bool.eq_iff_iff,a2]
 unfold hasL
 rw[List.any_eq_true]
 constructor
 ·rintro⟨r,hr,h⟩
  obtain⟨x,hx,rfl⟩:=List.mem_map.1 hr
  have h2:x<=n/\n<=x:=by
   have h3:(decide (x<=n)&&decide (n<=x))=true:=h
   simpa using h3
  obtain rfl:n=x:=by omega
  exact hp.subset hx
 ·intro h
  exact⟨dup n,List.mem_map.2 ⟨n,hp.symm.subset h,rfl⟩,by simp[dup,inR]⟩
theorem qZd (ns:List Int)(v:Value)(w:World)(h:SlP w w.heap.size 1 InE v ns)(hn:∀ x∈ns,numB x=true)(hN:ns.length<=400000) :
  Calls Tryz.prog 158 #[v] w fun e w'=>∃ v',e=.returned (.tuple #[v',.int .i64 0])/\OwnP w' w.heap.size 167 2 RuE v' (ofL ns)/\Below w.heap.size w w':=by
 obtain⟨A,c,rfl,b1,b2,b3⟩:=h
 unfold Big at b2
 go_enter Tryz.func158,Tryz.ntmps158
 go_wp2_with fail
 go_loopw [4,9] (fun v i wr=>∃ k:Nat,k<=ns.length/\i=.int .i64 k/\OwnP wr w.heap.size 167 2 RuE v ((ns.take k).map dup)/\Below w.heap.size w wr) (fun _ i _=>ns.length-(intOf i).toNat)
 case atStart=>exact⟨0,Nat.zero_le _,rfl,OwnP.nil,Below.refl _ _⟩
 case round=>
  obtain⟨k,hk,rfl,hown,hb⟩:=hrel
  have hsz:=hb.size
  by_cases hlt:k<ns.length
  ·obtain⟨x,hx⟩:∃ x,ns[k]?=some x:=⟨_,List.getElem?_eq_getElem hlt⟩
   obtain⟨b,off,rfl,hbB,hc⟩:=b3 (by rintro rfl;simp at hlt)
   obtain⟨cs,⟨rfl,hok⟩,_,hu⟩:=hc k _ hx
   have e0:wr.cell? ⟨b,off+k,none⟩=some (.int .i64 x):=(hb.cell hbB).trans (by simpa using hu 0 _ rfl)
   have HB:=hid (hn x (List.mem_of_getElem? hx))
   have HX:Hid ((ns.take (k+1)).map dup=(ns.take k).map dup++[dup x]):=by unfold Hid;rw[QS hx,List.map_append];rfl
   have HRE:Hid (RuE (dup x) [.int .i64 x,.int .i64 x]):=⟨rfl,hok,hok⟩
   have HL:Hid (((ns.take k).map dup).length + [dup x].length<=Few):=by unfold Hid Few;simp;omega
   clear hu hx hc b3 hok
   go_wp2_with (first|(go_at_call 187;refine (Zc _ _).mono ?_;rw[HB.out];rintro e w' ⟨rfl,rfl⟩)|(at_builtin;with_reducible refine Qj rfl (.tmp 16) (.tmp 20) _ rfl eiRun (by decide) (by decide) (fun _ _ h=>h.one) rfl (hown.alloc _) rfl (SlP.one (x:=dup x) HRE.out rfl _ rfl) HL.out (by rw[World.size_alloc];omega) ?_;intro v1 w1 hown1 hb1 _))
   go_roundw
   case rel=>exact⟨k+1,by omega,by go_num,by rw[HX.out];exact hown1,hb.trans (((Below.refl _ _).alloc (by omega) _).trans hb1)⟩
   case measure=>simp[intOf];omega
  ·obtain rfl:k=ns.length:=by omega
   rw[List.take_of_length_le (Nat.le_refl _)]at hown
   have HC:Hid (∀ W base v,OwnP W base 167 2 RuE v (ns.map dup)->base<=W.heap.size->Calls Tryz.prog 183 #[v,.func (.func 188) #[] #[]] W fun e w'=>e=.returned (.tuple #[]) /\
    ∃ ts:List Int,ts.Perm ns/\ts.Pairwise (fun a b=>a<=b)/\OwnP w' base 167 2 RuE v (ts.map dup)/\Below base W w'):=fun W base v ho hbs=>
     (YC dup cmpI swoI 188 (enters_of Tryz.func188 (by kernel_rfl) rfl) (fun x y W=>Vq (dup x) (dup y) W) ns v W base ho (by omega) hbs).mono fun e w' ⟨he,ts,h1,h2,h3,h4⟩=>
      ⟨he,ts,h1,h2.imp fun h=>(YI _ _).1 h,h3,h4⟩
   have HN:=hid hn
   clear hn b3
   go_wp2_with fail
   refine (HC.out _ _ _ hown hsz).mono ?_
   rintro e w1 ⟨rfl,ts,hp,hs,ho1,hb1⟩
   have HJ:=hid (qZc HN.out hp hs)
   have hs1:=hb1.size
   have hlen:ts.length=ns.length:=hp.length_eq
   have hsl:=ho1.sl (by rw[List.length_map,hlen];unfold Big;omega)
   have hro:QL (ts.map dup):=fun r hr=>by
    obtain⟨x,hx,rfl⟩:=List.mem_map.1 hr
    have:=HN.out x (hp.subset hx)
    simp[numB]at this
    simp[dup];omega
   have HRO:=hid hro
   have HL1:Hid ((ts.map dup).length<=900000):=by unfold Hid;rw[List.length_map,hlen];omega
   clear hp hs hro hlen ho1 hown
   go_wp2_with fail
   refine (YH (ts.map dup) _ w1 hsl HL1.out HRO.out).mono ?_
   rintro e w2 ⟨v2,rfl,ho2,hb2⟩
   rw[HJ.out]at ho2
   go_wp2_with fail
   go_ret2
   exact⟨_,rfl,ho2.mono (by omega),(hb.trans hb1).trans (hb2.mono (by omega))⟩
end Go.Proofs.YtbcoelggdikipaaGreat
namespace Go.Proofs.YtbcoelggdikipaaGreat
open Go.RowKit
def OfA (l:List Dt)(w:World)(k:Nat)(wr:World):Prop:=
 ∃ vs:Nat->Value,Rows4 wr (w.heap.size+1) w.heap.size 183 2 1 InE vs (fun i=>numsL (l.take k) i)/\Below w.heap.size w wr
def OfB (l:List Dt)(w1:World)(k:Nat)(wr:World):Prop:=
 ∃ ps:Nat->Value,wr.heap[w1.heap.size]?=some (.cells #[ps 0,ps 1,ps 2,ps 3] 162 (0,0)) /\
  (∀ j,j<4->OwnP wr (w1.heap.size+1) 167 2 RuE (ps j) (if j<k then ofL (numsL l (j:Int)) else []))/\Below w1.heap.size w1 wr
theorem qZe (l:List Dt)(vl:Value)(w:World)(h:SlP w w.heap.size 2 DtE vl l)(hR:∀ d∈l,d.right=true)(hN:l.length<=100000) :
  Calls Tryz.prog 113 #[vl] w fun e w'=>∃ v,e=.returned (.tuple #[v,.int .i64 0])/\OwnP w' w.heap.size 45 3 SpE v (ctxOf l)/\Below w.heap.size w w':=by
 obtain⟨A,n,rfl,b1,b2,b3⟩:=h
 unfold Big at b2
 go_enter Tryz.func113,Tryz.ntmps113
 go_wp2_with fail
 go_loopw [12] (fun i wr=>∃ k:Nat,k<=l.length/\i=.int .i64 k/\OfA l w k wr) (fun i _=>l.length-(intOf i).toNat)
 case atStart=>exact⟨0,Nat.zero_le _,rfl,fun _=>.slice none 0 0,Rows4.start (Qf rfl) (by omega),(Below.refl _ w).alloc (Nat.le_refl _) _⟩
 case round=>
  obtain⟨k,hk,rfl,vs,hr4,hb⟩:=hrel
  have hsz:=hb.size
  have hsz2:w.heap.size<wr.heap.size:=(Array.getElem?_eq_some_iff.1 hr4.arr).1
  have hsz4:w.heap.size≠wr.heap.size:=by omega
  by_cases hlt:k<l.length
  ·obtain⟨⟨dc,num⟩,hx⟩:∃ x,l[k]?=some x:=⟨_,List.getElem?_eq_getElem hlt⟩
   obtain⟨b,off,rfl,hbB,hc⟩:=b3 (by rintro rfl;simp at hlt)
   obtain⟨cs,⟨rfl,hok⟩,_,hu⟩:=hc k _ hx
   have e0:wr.cell? ⟨b,off+k*2,none⟩=some (.int .i64 dc):=(hb.cell hbB).trans (hu 0 _ rfl)
   have e1:wr.cell? ⟨b,off+k*2+1,none⟩=some (.int .i64 num):=(hb.cell hbB).trans (hu 1 _ rfl)
   have hri:=hR _ (List.mem_of_getElem? hx)
   have hbd:(0<=dc/\dc<4)/\1<=num/\num<=1099511627776:=by simpa[Dt.right,and_assoc] using hri
   have HRI:=hid hri
   have HR4:=hid hr4
   obtain⟨d,rfl⟩:∃ d:Nat,dc=(d:Int):=⟨dc.toNat,by omega⟩
   have hd4:d<4:=by omega
   have hdi:(d:Int)<4:=by omega
   have HPD:Hid ((fun i:Nat=>numsL (l.take (k+1)) i)=fun i=>if i=d then numsL (l.take k) d++[num] else numsL (l.take k) i):=by
    unfold Hid;funext i
    rw[Y0 hx]
    by_cases e:i=d
    ·subst e;rw[if_pos rfl,if_pos rfl]
    ·rw[if_neg e,if_neg (by show ¬(d:Int)=(i:Int);omega),List.append_nil]
   have HL:Hid ((numsL (l.take k) d).length + [num].length<=Few):=by have:=QV (l.take k) d;rw[List.length_take]at this;unfold Hid Few;simp;omega
   have HRE:Hid (InE num [.int .i64 num]):=⟨rfl,hok.n⟩
   have hbp:wr.cell? ⟨w.heap.size,d,none⟩=some (vs d):=HR4.out.at hd4
   have HLT:=hid ((HR4.out.own d hd4).lt)
   clear hu hx hc b3 hok hr4 hri hR
   go_upto_region 7 with (go_at_call 64;refine (Qx ⟨d,num⟩ _).mono ?_;rw[HRI.out];rintro e wd ⟨rfl,hbd'⟩;have hsd:=hbd'.size;simp only[World.size_alloc]at hsd)
   have HB1:Hid (Below wr.heap.size wr wd):=((Below.refl _ wr).alloc (Nat.le_refl _) _).trans (hbd'.mono (by simp))
   have hx0:wd.cell? ⟨wr.heap.size,0,none⟩=some (.int .i64 (d:Int)):=by rw[hbd'.cell (p:=⟨wr.heap.size,0,none⟩) (by simp)];simp
   have hx1:wd.cell? ⟨wr.heap.size,1,none⟩=some (.int .i64 num):=by rw[hbd'.cell (p:=⟨wr.heap.size,1,none⟩) (by simp)];simp
   have hxb:wd.heap[wr.heap.size]?=some (.cells #[.int .i64 (d:Int),.int .i64 num] 78 (0,0)):=(hbd'.block wr.heap.size (by simp)).trans (Qf rfl)
   have HXB:=hid hxb
   have hbp1:wd.cell? ⟨w.heap.size,d,none⟩=some (vs d):=(HB1.out.cell (p:=⟨w.heap.size,d,none⟩) hsz2).trans hbp
   have HR5:=hid (HR4.out.grow HB1.out)
   have hwd1:w.heap.size<wd.heap.size:=by omega
   have hwd2:w.heap.size≠wd.heap.size:=by omega
   have hwd3:wr.heap.size<wd.heap.size:=by omega
   have hwd4:wr.heap.size≠wd.heap.size:=by omega
   have HBW:=hid (hb.trans (HB1.out.mono hsz))
   clear hbp hxb hbd' e0 e1
   go_wp2_with fail
   refine QU (S:=fun w'=>w'.cell? ⟨wr.heap.size,0,none⟩=some (.int .i64 (d:Int))/\w'.cell? ⟨wr.heap.size,1,none⟩=some (.int .i64 num)/\w'.cell? ⟨w.heap.size,d,none⟩=some (vs d)) 11 (by kernel_rfl) (by kernel_rfl) ?_
   simp only[List.take_succ_cons,List.take_zero,List.drop_succ_cons,List.drop_zero]
   have hHeld:(fun w':World=>w'.cell? ⟨wr.heap.size,0,none⟩=some (.int .i64 (d:Int))/\w'.cell? ⟨wr.heap.size,1,none⟩=some (.int .i64 num)/\w'.cell? ⟨w.heap.size,d,none⟩=some (vs d)) wd.drew:=by go_keep
   refine wpAnyH_take (i:=0) (oi:=_) (v:=?v0) rfl (by kernel_rfl) (by kernel_rfl) (by kernel_rfl) (fun _ _ _ h=>h) (Or.inl ⟨by rfl,?h0⟩) (by assumption) ?_
   case h0=>(intro w hSw;(try dsimp only at hSw);go_simp;(try with_reducible rfl))
   simp only[Act.put,List.setIfInBounds_toArray]
   refine wpAnyH_take (i:=1) (oi:=_) (v:=?v1) rfl (by kernel_rfl) (by kernel_rfl) (by kernel_rfl) (fun _ _ _ h=>h) (Or.inl ⟨by rfl,?h1⟩) (by assumption) ?_
   case h1=>(intro w hSw;(try dsimp only at hSw);go_simp;(try with_reducible rfl))
   simp only[Act.put,List.setIfInBounds_toArray]
   refine wpAnyH_take (i:=2) (oi:=_) (v:=?v2) rfl (by kernel_rfl) (by kernel_rfl) (by kernel_rfl) (fun _ _ _ h=>h) (Or.inl ⟨by rfl,?h2⟩) (by assumption) ?_
   case h2=>(intro w hSw;(try dsimp only at hSw);go_simp;(try with_reducible rfl))
   simp only[Act.put,List.setIfInBounds_toArray]
   refine wpAnyH_take (i:=3) (oi:=_) (v:=?v3) rfl (by kernel_rfl) (by kernel_rfl) (by kernel_rfl) (fun _ _ _ h=>h) (Or.inl ⟨by rfl,?h3⟩) (by assumption) ?_
   case h3=>(intro w hSw;(try dsimp only at hSw);go_simp;(try with_reducible rfl))
   simp only[Act.put,List.setIfInBounds_toArray]
   refine wpAnyH_take (i:=4) (oi:=_) (v:=?v4) rfl (by kernel_rfl) (by kernel_rfl) (by kernel_rfl) (fun _ _ _ h=>h) (Or.inl ⟨by rfl,?h4⟩) (by assumption) ?_
   case h4=>(intro w hSw;(try dsimp only at hSw);go_simp;(try with_reducible rfl))
   simp only[Act.put,List.setIfInBounds_toArray]
   refine wpAnyH_take (i:=5) (oi:=_) (v:=?v5) rfl (by kernel_rfl) (by kernel_rfl) (by kernel_rfl) (fun _ _ _ h=>h) (Or.inl ⟨by rfl,?h5⟩) (by assumption) ?_
   case h5=>(intro w hSw;(try dsimp only at hSw);go_simp;(try with_reducible rfl))
   simp only[Act.put,List.setIfInBounds_toArray]
   refine wpAnyH_take (i:=6) (oi:=_) (v:=?v6) rfl (by kernel_rfl) (by kernel_rfl) (by kernel_rfl) (fun _ _ _ h=>h) (Or.inl ⟨by rfl,?h6⟩) (by assumption) ?_
   case h6=>(intro w hSw;(try dsimp only at hSw);go_simp;(try with_reducible rfl))
   simp only[Act.put,List.setIfInBounds_toArray]
   refine wpAnyH_take (i:=7) (oi:=_) (v:=?v7) rfl (by kernel_rfl) (by kernel_rfl) (by kernel_rfl) (fun _ _ _ h=>h) (Or.inl ⟨by rfl,?h7⟩) (by assumption) ?_
   case h7=>(intro w hSw;(try dsimp only at hSw);go_simp;(try with_reducible rfl))
   simp only[Act.put,List.setIfInBounds_toArray]
   refine wpAnyH_ready (rs:=[8]) (by kernel_rfl) (by simp) ?_
   refine AllReadyH.cons (o:=_) rfl (fun K hK=>?_) AllReadyH.nil
   go_simp
   refine hK.out _ _ ?_ (fun hHeld8=>?_)
   ·go_keep
   clear hK K
   simp only[List.setIfInBounds_toArray]
   refine wpAnyH_ready (rs:=[9]) (by kernel_rfl) (by simp) ?_
   refine AllReadyH.cons (o:=_) rfl (fun K hK=>?_) AllReadyH.nil
   (refine XK (v:=vs d) rfl (.tmp 24) (.tmp 27) _ rfl Xk (by decide) (by decide) (fun _ _ h=>h.one) rfl (((HR5.out.own d hd4).grow ((Below.refl _ wd).alloc (Nat.le_refl _) _)).drew) rfl (SlP.one (x:=num) HRE.out rfl _ (by simp)) HL.out (by simp;omega) ?_;intro v1 w4 hown4 hb4 hg4 hv4;have hsh4:=OwnP.shape hown4;simp only[List.length_append,List.length_singleton]at hsh4;obtain⟨A1,c1,hv1⟩:=hsh4;subst hv1;have hg4h:Hid (w4.heap[w.heap.size]?=some (.cells #[vs 0,vs 1,vs 2,vs 3] 183 (0,0))):=(hg4.block w.heap.size (by simp;omega) (fun e=>by have:=HLT.out _ e.symm;omega)).trans ((Qh hwd1).trans HR5.out.arr);have hc4:w4.cell? ⟨w.heap.size,d,none⟩=some (vs d):=(Qa hg4h.out).trans (QO vs hd4);have hf4:w4.frozen? ⟨w.heap.size,d,none⟩=false:=Qb hg4h.out;have hx3:=(hg4.block wr.heap.size (by simp;omega) (fun e=>by have:=HLT.out _ e.symm;omega)).trans ((Qh hwd3).trans HXB.out);have hx4:Hid (w4.cell? ⟨wr.heap.size,0,none⟩=some (.int .i64 (d:Int))/\w4.cell? ⟨wr.heap.size,1,none⟩=some (.int .i64 num)/\w4.cell? ⟨w.heap.size,d,none⟩=some (vs d)):=⟨(Qa (i:=0) hx3).trans rfl,(Qa (i:=1) hx3).trans rfl,hc4⟩;clear hx3)
   refine hK.out _ _ ?_ (fun hHeld9=>?_)
   ·exact hx4.out
   clear hK K
   simp only[Act.put,List.setIfInBounds_toArray]
   refine wpAnyH_take (i:=10) (oi:=_) (v:=?v10) rfl (by kernel_rfl) (by kernel_rfl) (by kernel_rfl) (fun _ _ _ h=>h) (Or.inl ⟨by rfl,?h10⟩) (by assumption) ?_
   case h10=>(intro w hSw;(try dsimp only at hSw);go_simp;(try with_reducible rfl))
   simp only[Act.put,List.setIfInBounds_toArray]
   refine wpAnyH_done (by kernel_rfl) ?_ _
   change wpList _ _ _ _ _ _
   go_wp2_with fail
   go_roundw
   case rel=>
    refine⟨k+1,by omega,by go_num,fun i=>if i=d then .slice A1 ((numsL (l.take k) d).length+1) c1 else vs i,?_,?_⟩
    ·rw[HPD.out]
     exact Rows4.put (w:=(wd.alloc (.cells #[.int .i64 num] 2)).drew) ((HR5.out.grow ((Below.refl _ _).alloc (Nat.le_refl _) _)).same rfl) hd4 hown4 hg4 hv4
    ·exact (((HBW.out.alloc (by omega) _).drew.trans (hb4.mono (by omega))).setCell (Nat.le_refl _) _)
   case measure=>simp[intOf];omega
  ·obtain rfl:k=l.length:=by omega
   rw[List.take_of_length_le (Nat.le_refl _)]at hr4
   have c0:wr.cell? ⟨w.heap.size,0,none⟩=some (vs 0):=hr4.at (by omega)
   have c1:wr.cell? ⟨w.heap.size,1,none⟩=some (vs 1):=hr4.at (by omega)
   have c2:wr.cell? ⟨w.heap.size,2,none⟩=some (vs 2):=hr4.at (by omega)
   have c3:wr.cell? ⟨w.heap.size,3,none⟩=some (vs 3):=hr4.at (by omega)
   have HR:=hid hr4
   have HRR:=hid hR
   clear hr4 b3 hR
   go_wp2_with fail
   obtain⟨w1,rfl⟩:∃ w1:World,w1=wr:=⟨_,rfl⟩
   go_loopw [32] (fun i wr=>∃ k:Nat,k<=4/\i=.int .i64 k/\OfB l w1 k wr) (fun i _=>4-(intOf i).toNat)
   case atStart=>exact⟨0,by omega,rfl,fun _=>.slice none 0 0,Qf rfl,fun j _=>by rw[if_neg (Nat.not_lt_zero _)];exact OwnP.nil,(Below.refl _ _).alloc (Nat.le_refl _) _⟩
   case round=>
    obtain⟨k,hk,rfl,ps,hpa,hpo,hbi⟩:=hrel
    have hsi:=hbi.size
    have hsi2:w1.heap.size<wr.heap.size:=(Array.getElem?_eq_some_iff.1 hpa).1
    by_cases hk4:k<4
    ·have hki:(k:Int)<4:=by omega
     have hidx:∀ w,(Instr.index 183 (.agg #[vs 0,vs 1,vs 2,vs 3]) (.int .i64 (k:Int))).run Tryz.prog w=.ok (vs k) w:=fun w=>by
      match k,hk4 with
      |0,_=>rfl
      |1,_=>rfl
      |2,_=>rfl
      |3,_=>rfl
     have hnl:=QV l k
     have HSL:Hid (SlP wr wr.heap.size 1 InE (vs k) (numsL l k)):=(HR.out.sl hk4 (by show (numsL l k).length<=Big;unfold Big;omega)).imp hbi hsi fun _ _ _ h=>h
     have HNB:Hid (∀ x∈numsL l k,numB x=true):=fun x hx=>by
      unfold numsL at hx
      obtain⟨d,hd,rfl⟩:=List.mem_map.1 hx
      have h1:=HRR.out d (List.mem_filter.1 hd).1
      simp[Dt.right]at h1
      simp[numB];omega
     have HPA:=hid hpa
     have HPO:=hid hpo
     have hpc:wr.cell? ⟨w1.heap.size,k,none⟩=some (ps k):=(Qa hpa).trans (QO ps hk4)
     clear hpa hpo
     go_wp2_with fail
     refine (qZd (numsL l k) (vs k) wr HSL.out HNB.out (by omega)).mono ?_
     rintro e w2 ⟨v2,rfl,ho2,hb2⟩
     obtain⟨A2,n2,rfl⟩:=ho2.shape
     have hp2:=(hb2.block w1.heap.size hsi2).trans HPA.out
     have hc2:w2.cell? ⟨w1.heap.size,k,none⟩=some (ps k):=(Qa hp2).trans (QO ps hk4)
     have hf2:w2.frozen? ⟨w1.heap.size,k,none⟩=false:=Qb hp2
     have HP2:=hid hp2
     have HO2:=hid ho2
     clear hp2 ho2 hpc hidx
     go_wp2_with fail
     go_roundw
     case rel=>
      refine⟨k+1,by omega,by go_num,fun j=>if j=k then .slice A2 (ofL (numsL l k)).length n2 else ps j,?_,fun j hj=>?_,(hbi.trans (hb2.mono hsi)).setCell (Nat.le_refl _) _⟩
      ·rw[Qe HP2.out,Xp ps hk4]
      ·by_cases e:j=k
       ·subst e
        simp only[if_true,if_pos (Nat.lt_succ_self j)]
        exact (HO2.out.mono (by omega)).setOther (by simp) _
       ·have e2:(if j<k+1 then ofL (numsL l (j:Int)) else [])=(if j<k then ofL (numsL l (j:Int)) else []):=by
         by_cases e3:j<k
         ·rw[if_pos e3,if_pos (by omega)]
         ·rw[if_neg e3,if_neg (by omega)]
        simp only[if_neg e]
        rw[e2]
        exact ((HPO.out j hj).grow hb2).setOther (by simp) _
     case measure=>simp[intOf];omega
    ·obtain rfl:k=4:=by omega
     have d0:wr.cell? ⟨w1.heap.size,0,none⟩=some (ps 0):=Qa (i:=0) hpa
     have d1:wr.cell? ⟨w1.heap.size,1,none⟩=some (ps 1):=Qa (i:=1) hpa
     have d2:wr.cell? ⟨w1.heap.size,2,none⟩=some (ps 2):=Qa (i:=2) hpa
     have d3:wr.cell? ⟨w1.heap.size,3,none⟩=some (ps 3):=Qa (i:=3) hpa
     have HOL:∀ j:Nat,(ofL (numsL l (j:Int))).length<=100001:=fun j=>by have:=Xr (numsL l (j:Int));have:=QV l (j:Int);omega
     have HSP:Hid (∀ j,j<4->SlP wr wr.heap.size 2 RuE (ps j) (ofL (numsL l (j:Int)))):=fun j hj=>by
      have:=hpo j hj
      rw[if_pos hj]at this
      exact this.sl (by have:=HOL j;unfold Big;omega)
     have HOLH:=hid HOL
     clear hpa hpo HOL
     go_wp2_with fail
     refine (XV (fun j=>ofL (numsL l (j:Int))) ps wr HSP.out (fun j _=>by have:=HOLH.out j;show (ofL _).length<=_;omega)).mono ?_
     rintro e w2 ⟨v2,rfl,ho2,hb2⟩
     go_wp2_with fail
     go_ret2
     exact⟨_,rfl,ho2.mono (by omega),(hb.trans (hbi.mono hsz)).trans (hb2.mono (by omega))⟩
def qZf (t:Tr)(w:World)(e:Ending)(w':World):Prop:=
 ∃ v n,e=.returned (.tuple #[v,.int .i64 n])/\n=(if t.right 5 then 0 else 1)/\OwnP w' w.heap.size 45 3 SpE v (if t.right 5 then ctxOf t.dots else [])/\Below w.heap.size w w'
theorem Vr (t:Tr)(ve vk:Value)(w:World)(h:t.rd w w.heap.size ve vk)(hN:t.sz<=90000) :
  Calls Tryz.prog 68 #[.agg #[ve,vk]] w (qZf t w):=by
 have HC:Hid (∀ w',Below w.heap.size w w'->t.rd w' w'.heap.size ve vk):=fun w' hb=>Qi hb hb.size _ _ _ h
 have hdl:=Yl t
 obtain⟨A3,n3,A4,n4,rfl,rfl⟩:=Qk h
 have hb0:=(Below.refl w.heap.size w).alloc (Nat.le_refl _) (.cells #[.slice A3 t.es.length n3,.slice A4 t.ks.length n4] 25)
 clear h
 go_enter Tryz.func68,Tryz.ntmps68
 go_wp2_with fail
 refine (Z6 t _ _ _ (HC.out _ hb0)).mono ?_
 rintro e w1 ⟨rfl,hb1⟩
 have hs1:=hb1.size
 simp only[World.size_alloc]at hs1
 have hB1:Below w.heap.size w w1:=hb0.trans (hb1.mono (by simp))
 have c0:w1.cell? ⟨w.heap.size,0,none⟩=some (.slice A3 t.es.length n3):=by rw[hb1.cell (p:=⟨w.heap.size,0,none⟩) (by simp)];simp
 have c1:w1.cell? ⟨w.heap.size,1,none⟩=some (.slice A4 t.ks.length n4):=by rw[hb1.cell (p:=⟨w.heap.size,1,none⟩) (by simp)];simp
 cases hr:t.right 5
 ·have HR:=hid hr
  clear hr
  go_wp2_with fail
  go_ret2
  exact⟨_,_,rfl,by rw[HR.out];rfl,by rw[HR.out];exact OwnP.nil,hB1⟩
 ·have HR:=hid hr
  have HD:=hid (Zq t 5 hr)
  clear hr
  go_wp2_with fail
  refine (V6 t _ _ _ (HC.out _ hB1) (by omega)).mono ?_
  rintro e w2 ⟨v2,rfl,ho2,hb2⟩
  have hs2:=hb2.size
  have hsl:=ho2.sl (by unfold Big;omega)
  clear ho2
  go_wp2_with fail
  refine (qZe t.dots v2 w2 hsl HD.out (by omega)).mono ?_
  rintro e w3 ⟨v3,rfl,ho3,hb3⟩
  go_wp2_with fail
  go_ret2
  exact⟨_,_,rfl,by rw[HR.out];rfl,by rw[HR.out];exact ho3.mono (by omega),(hB1.trans (hb2.mono (by omega))).trans (hb3.mono (by omega))⟩
def RetCE (w:World)(t:Tr)(c:List Sp)(k:Int)(e:Ending)(w':World):Prop:=
 ∃ ve vk vc,e=.returned (.tuple #[.agg #[ve,vk,vc],.int .i64 k])/\t.rda w' (fun b=>w.heap.size<=b/\b<w'.heap.size) ve vk/\SlA w' (fun b=>w.heap.size<=b/\b<w'.heap.size) 3 SpE vc c/\Below w.heap.size w w'
theorem SlA.one {α:Type}{w:World}{ok:Nat->Prop}{sz n:Nat}{E:α->List Value->Prop}{x:α}{cs:List Value}{e:TypeId}{z:Nat×Nat}(hE:E x cs)(hl:cs.length=sz)(h:w.heap[n]?=some (.cells cs.toArray e z))(ho:ok n) :
  SlA w ok sz E (.slice (some ⟨n,0,none⟩) 1 1) [x]:=by
 refine⟨_,1,rfl,Nat.le_refl _,by simp[Big],fun _=>⟨_,0,rfl,ho,fun j y hy=>?_⟩⟩
 match j,hy with
 |0,hy=>
  simp at hy;subst hy
  exact⟨cs,hE,hl,fun i u hi=>by rw[Qa h];simpa using hi⟩
theorem En.Ok.mk' {d:Dt}{n:Int}(hd:d.Ok)(hn:I64 n):En.Ok ⟨d.dc,d.n,ByteArray.empty,n⟩:=⟨hd.dc,hd.n,hn,by simp[Big]⟩
theorem Vs:∀ (t:Tr) (d:Int),t.right d=true->(t.dep:Int)<=d:=by
 intro t
 induction t using Tr.ind with
 |h es ks ih=>
 intro d h
 rw[Tr.right,Bool.and_eq_true,Bool.and_eq_true,decide_eq_true_eq]at h
 obtain⟨⟨h1,_⟩,h2⟩:=h
 rw[Tr.dep]
 have:∀ (p:Option ByteArray) (ks:List Kd),(∀ k t,(k,t)∈ks->∀ d,t.right d=true->(t.dep:Int)<=d)->Tr.rightL p ks d=true->(Tr.depL ks:Int)<=d-1:=by
  intro p ks
  induction ks generalizing p with
  |nil=>intro _ _;simp[Tr.depL];omega
  |cons x ks ih'=>
   obtain⟨k,t⟩:=x
   intro hi h
   rw[QE,Bool.and_eq_true,Bool.and_eq_true]at h
   have a:=hi k t (by simp) _ h.1.2
   have b:=ih' (some k) (fun k t hm=>hi k t (by simp[hm])) h.2
   rw[Tr.depL];omega
 have:=this none ks ih h2
 omega
theorem Zr (t:Tr):empB t.es.length t.ks.length=t.empty:=by
 obtain⟨es,ks⟩:=t
 rw[Bool.eq_iff_iff];simp[empB,Tr.empty,Tr.es,Tr.ks]
end Go.Proofs.YtbcoelggdikipaaGreat
