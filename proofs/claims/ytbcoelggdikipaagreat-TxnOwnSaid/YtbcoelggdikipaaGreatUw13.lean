/- What the laws need. No condition but those that each lemma states. -/
import Derived.Test.YtbcoelggdikipaaGreatUw12
import Derived.Test.YtbcoelggdikipaaGreatUw11
import Derived.Test.YtbcoelggdikipaaGreatUw8
import Derived.Test.YtbcoelggdikipaaGreatUw4
import Derived.Test.YtbcoelggdikipaaGreatUw2
import Derived.Test.YtbcoelggdikipaaGreatUw1
import Derived.Test.YtbcoelggdikipaaGreatUw9
import Derived.Test.YtbcoelggdikipaaGreatUw6
import Derived.Test.YtbcoelggdikipaaGreatUw5
import Derived.Test.YtbcoelggdikipaaGreatUw10
set_option maxRecDepth 100000
set_option maxHeartbeats 8000000
set_option linter.unusedSimpArgs false
namespace Go.Proofs.YtbcoelggdikipaaGreat
open Go.RowKit
theorem qUk (o:Opr)(vp:Value)(w:World)(h:SlP w w.heap.size 1 StE vp o.path)(ho:o.Ok) :
  Calls Tryz.prog 101 #[.agg #[vp,.int .i64 o.act,.string o.s,.int .i64 o.n]] w fun e w'=>e=.returned (.int .i64 (opI o))/\Below w.heap.size w w':=by
 have HC:Hid (∀ w',Below w.heap.size w w'->SlP w' w'.heap.size 1 StE vp o.path):=fun w' hb=>h.imp hb hb.size fun _ _ _ h=>h
 obtain⟨A,c,rfl,c1,c2,c3⟩:=h
 have hs:=ho.s
 unfold Big at c2 hs
 obtain⟨path,act,s,n⟩:=o
 simp only at HC c1 c2 c3 hs ⊢
 have HX:Hid (∀ W,Below (w.heap.size+1) (w.alloc (.cells #[.slice A path.length c,.int .i64 act,.string s,.int .i64 n] 65)) W->(Below w.heap.size w W/\SlP W W.heap.size 1 StE (.slice A path.length c) path/\W.cell? ⟨w.heap.size,0,none⟩=some (.slice A path.length c)/\W.cell? ⟨w.heap.size,1,none⟩=some (.int .i64 act)/\W.cell? ⟨w.heap.size,2,none⟩=some (.string s)/\W.cell? ⟨w.heap.size,3,none⟩=some (.int .i64 n))):=fun W hW=>by
  have g0:W.heap[w.heap.size]?=some (.cells #[.slice A path.length c,.int .i64 act,.string s,.int .i64 n] 65 (0,0)):=(hW.block _ (by omega)).trans (Qd rfl)
  have hB:Below w.heap.size w W:=((Below.refl _ w).alloc (Nat.le_refl _) _).trans (hW.mono (by omega))
  exact⟨hB,HC.out _ hB,Qa (i:=0) g0,Qa (i:=1) g0,Qa (i:=2) g0,Qa (i:=3) g0⟩
 go_enter Tryz.func101,Tryz.ntmps101
 go_wp2_with fail
 obtain⟨hB,hp,q0,q1,q2,q3⟩:=HX.out _ (Below.refl _ _)
 refine (qZ9 path _ _ hp).mono ?_
 rintro e w1 ⟨rfl,hb1⟩
 have HB1:=hid (hb1.mono (show w.heap.size+1<=_ by simp))
 clear hB hp q0 q1 q2 q3 hb1
 obtain⟨hB,hp,q0,q1,q2,q3⟩:=HX.out _ HB1.out
 by_cases hpz:pathI path=0
 case neg=>
  have hO:Hid (opI ⟨path,act,s,n⟩=pathI path):=by unfold Hid opI;simp only;rw[if_pos hpz]
  have hne:(pathI path==0)=false:=by simpa using hpz
  clear hpz
  go_wp2_with fail
  go_ret
  exact⟨Qn hO.out.symm,hB⟩
 have hpl:=(QZ hpz).1
 have hpu:=(QZ hpz).2.1
 have HPZ:=hid hpz
 rw[hpz]
 clear hpz
 obtain⟨bq,offq,hAq,hbq,hcq⟩:=c3 (by rintro rfl;simp at hpl)
 subst hAq
 obtain⟨cs,⟨rfl,hok⟩,_,hu⟩:=hcq (path.length-1) _ (ZT hpl)
 have e0:=(hB.cell (p:=⟨bq,offq+(path.length-1),none⟩) hbq).trans (by simpa using hu 0 _ rfl)
 have HOK:=hid hok
 have hbq1:bq<w1.heap.size:=by have:=hB.size;omega
 have hl1:w.heap.size<w1.heap.size:=by have:=HB1.out.size;simp at this;omega
 clear hu hcq c3 hok
 go_upto_region 4 with (fail)
 have HQK:=hid (fun (w2:World) (_:Below w1.heap.size w1 w2)=>Xf (lastK path) w2 HOK.out)
 have HQA:=hid (fun (w2:World) (_:Below w1.heap.size w1 w2)=>qW4 act (kindB (lastK path)) w2)
 have f0:=Qh (B:=w1.heap.size) q0 (by simpa using hl1)
 have f1:=Qh (B:=w1.heap.size) q1 (by simpa using hl1)
 have f2:=Qh (B:=w1.heap.size) e0 (by simpa using hbq1)
 refine Qc w1.heap.size (by kernel_rfl) (by kernel_rfl) ?_
 repeat (go_big_quiet_step (first|(go_at_call 51;with_reducible exact Calls.far_all (Nat.le_refl _) HQK.out)|(go_at_call 149;with_reducible exact Calls.far_all (Nat.le_refl _) HQA.out)))
 refine wpQuiet_nil ?_
 intro w2 hb2
 have HB3:=hid (HB1.out.trans (hb2.mono (by omega)))
 clear f0 f1 f2 hB hp q0 q1 q2 q3 hb2 e0 HQK HQA
 obtain⟨hB,hp,q0,q1,q2,q3⟩:=HX.out _ HB3.out
 cases ha:actB act (kindB (lastK path))
 ·have HO:Hid (opI ⟨path,act,s,n⟩=6):=by unfold Hid opI;simp only;rw[if_neg (by rw[HPZ.out];simp),if_pos (by rw[ha];rfl)]
  clear ha
  go_wp2_with fail
  go_ret
  exact⟨Qn HO.out.symm,hB⟩
 have HA':=hid ha
 have hac:act=1∨act=2∨act=3∨act=4∨act=5∨act=6∨act=7:=by
  unfold actB at ha
  split at ha
  ·omega
  ·split at ha
   ·omega
   ·split at ha
    ·omega
    ·split at ha
     ·omega
     ·have:=of_decide_eq_true ha;omega
 clear ha
 rcases hac with rfl|rfl|rfl|rfl|rfl|rfl|rfl
 ·have HA:=HA'
  have HE:Hid (∀ (s:ByteArray) (n:Int),opI ⟨path,1,s,n⟩=if s.size=0/\n=0 then 0 else 1):=by
   intro s n
   rw[Zf HPZ.out HA.out]
   unfold opTxt opNum keyB
   simp
  go_wp2_with fail
  all_goals (go_ret;refine⟨Qn ?_,hB⟩;rw[HE.out])
  all_goals (try simp only[Bool.not_eq_eq_eq_not]at *)
  all_goals (try simp only[Bool.not_true]at *)
  all_goals (try simp only[Bool.not_false]at *)
  all_goals (try simp only[bne_iff_ne]at *)
  all_goals (try simp only[ne_eq]at *)
  all_goals (try simp only[bne_eq_false_iff_eq]at *)
  all_goals (try simp only[ZV]at *)
  all_goals (try simp only[tol_f]at *)
  all_goals (try simp only[tol_t]at *)
  all_goals (first|(exfalso;omega)|(rw[if_pos (by omega)];done)|(rw[if_neg (by omega)];done))
 ·have HA:=HA'
  have HE:Hid (∀ (s:ByteArray) (n:Int),opI ⟨path,2,s,n⟩=if s.size=0/\n=0 then 0 else 1):=by
   intro s n
   rw[Zf HPZ.out HA.out]
   unfold opTxt opNum keyB
   simp
  go_wp2_with fail
  all_goals (go_ret;refine⟨Qn ?_,hB⟩;rw[HE.out])
  all_goals (try simp only[Bool.not_eq_eq_eq_not]at *)
  all_goals (try simp only[Bool.not_true]at *)
  all_goals (try simp only[Bool.not_false]at *)
  all_goals (try simp only[bne_iff_ne]at *)
  all_goals (try simp only[ne_eq]at *)
  all_goals (try simp only[bne_eq_false_iff_eq]at *)
  all_goals (try simp only[ZV]at *)
  all_goals (try simp only[tol_f]at *)
  all_goals (try simp only[tol_t]at *)
  all_goals (first|(exfalso;omega)|(rw[if_pos (by omega)];done)|(rw[if_neg (by omega)];done))
 ·have HA:=HA'
  have HE:Hid (∀ (s:ByteArray) (n:Int),opI ⟨path,3,s,n⟩=if (1<=s.size/\s.size<=30)/\n=0 then 0 else 1):=by
   intro s n
   rw[Zf HPZ.out HA.out]
   unfold opTxt opNum keyB
   simp
  go_wp2_with fail
  refine (QU s _).mono ?_
  cases hks:keyB s
  ·rintro e w4 ⟨rfl,hb4⟩
   have hB4:=hB.trans (hb4.mono hB.size)
   have HKS:Hid (¬(1<=s.size/\s.size<=30)):=by unfold Hid;unfold keyB at hks;simpa using hks
   clear hks
   go_wp2_with fail
   go_ret
   exact⟨Qn (by rw[HE.out,if_neg (fun h=>HKS.out h.1)]),hB4⟩
  ·rintro e w4 ⟨rfl,hb4⟩
   have HB4:=hid (HB3.out.trans (hb4.mono (by have:=HB3.out.size;simp at this;omega)))
   have HKS:Hid (1<=s.size/\s.size<=30):=by unfold Hid;unfold keyB at hks;simpa using hks
   clear hB hp q0 q1 q2 q3 hb4 hks
   obtain⟨hB,hp,q0,q1,q2,q3⟩:=HX.out _ HB4.out
   go_wp2_with fail
   all_goals (go_ret;refine⟨Qn ?_,hB⟩;rw[HE.out])
   all_goals (have hks2:=HKS.out)
   all_goals (try simp only[Bool.not_eq_eq_eq_not]at *)
   all_goals (try simp only[Bool.not_true]at *)
   all_goals (try simp only[Bool.not_false]at *)
   all_goals (try simp only[bne_iff_ne]at *)
   all_goals (try simp only[ne_eq]at *)
   all_goals (try simp only[bne_eq_false_iff_eq]at *)
   all_goals (first|(exfalso;omega)|(rw[if_pos (by omega)];done)|(rw[if_neg (by omega)];done))
 ·have HA:=HA'
  have HE:Hid (∀ (s:ByteArray) (n:Int),opI ⟨path,4,s,n⟩=if (1<=s.size/\s.size<=30)/\n=0 then 0 else 1):=by
   intro s n
   rw[Zf HPZ.out HA.out]
   unfold opTxt opNum keyB
   simp
  go_wp2_with fail
  refine (QU s _).mono ?_
  cases hks:keyB s
  ·rintro e w4 ⟨rfl,hb4⟩
   have hB4:=hB.trans (hb4.mono hB.size)
   have HKS:Hid (¬(1<=s.size/\s.size<=30)):=by unfold Hid;unfold keyB at hks;simpa using hks
   clear hks
   go_wp2_with fail
   go_ret
   exact⟨Qn (by rw[HE.out,if_neg (fun h=>HKS.out h.1)]),hB4⟩
  ·rintro e w4 ⟨rfl,hb4⟩
   have HB4:=hid (HB3.out.trans (hb4.mono (by have:=HB3.out.size;simp at this;omega)))
   have HKS:Hid (1<=s.size/\s.size<=30):=by unfold Hid;unfold keyB at hks;simpa using hks
   clear hB hp q0 q1 q2 q3 hb4 hks
   obtain⟨hB,hp,q0,q1,q2,q3⟩:=HX.out _ HB4.out
   go_wp2_with fail
   all_goals (go_ret;refine⟨Qn ?_,hB⟩;rw[HE.out])
   all_goals (have hks2:=HKS.out)
   all_goals (try simp only[Bool.not_eq_eq_eq_not]at *)
   all_goals (try simp only[Bool.not_true]at *)
   all_goals (try simp only[Bool.not_false]at *)
   all_goals (try simp only[bne_iff_ne]at *)
   all_goals (try simp only[ne_eq]at *)
   all_goals (try simp only[bne_eq_false_iff_eq]at *)
   all_goals (first|(exfalso;omega)|(rw[if_pos (by omega)];done)|(rw[if_neg (by omega)];done))
 ·have HA:=HA'
  have HE:Hid (∀ (s:ByteArray) (n:Int),opI ⟨path,5,s,n⟩=if s.size=0/\-1099511627776<=n/\n<=1099511627776 then 0 else 1):=by
   intro s n
   rw[Zf HPZ.out HA.out]
   unfold opTxt opNum keyB
   simp
  go_wp2_with fail
  all_goals (go_ret;refine⟨Qn ?_,hB⟩;rw[HE.out])
  all_goals (try simp only[Bool.not_eq_eq_eq_not]at *)
  all_goals (try simp only[Bool.not_true]at *)
  all_goals (try simp only[Bool.not_false]at *)
  all_goals (try simp only[bne_iff_ne]at *)
  all_goals (try simp only[ne_eq]at *)
  all_goals (try simp only[bne_eq_false_iff_eq]at *)
  all_goals (try simp only[ZV]at *)
  all_goals (try simp only[tol_f]at *)
  all_goals (try simp only[tol_t]at *)
  all_goals (first|(exfalso;omega)|(rw[if_pos (by omega)];done)|(rw[if_neg (by omega)];done))
 ·have HA:=HA'
  have HE:Hid (∀ (s:ByteArray) (n:Int),opI ⟨path,6,s,n⟩=if s.size<=30/\n=0 then 0 else 1):=by
   intro s n
   rw[Zf HPZ.out HA.out]
   unfold opTxt opNum keyB
   simp
  go_wp2_with fail
  all_goals (go_ret;refine⟨Qn ?_,hB⟩;rw[HE.out])
  all_goals (try simp only[Bool.not_eq_eq_eq_not]at *)
  all_goals (try simp only[Bool.not_true]at *)
  all_goals (try simp only[Bool.not_false]at *)
  all_goals (try simp only[bne_iff_ne]at *)
  all_goals (try simp only[ne_eq]at *)
  all_goals (try simp only[bne_eq_false_iff_eq]at *)
  all_goals (try simp only[ZV]at *)
  all_goals (try simp only[tol_f]at *)
  all_goals (try simp only[tol_t]at *)
  all_goals (first|(exfalso;omega)|(rw[if_pos (by omega)];done)|(rw[if_neg (by omega)];done))
 ·have HA:=HA'
  have HE:Hid (∀ (s:ByteArray) (n:Int),opI ⟨path,7,s,n⟩=if s.size=0/\n=0 then 0 else 1):=by
   intro s n
   rw[Zf HPZ.out HA.out]
   unfold opTxt opNum keyB
   simp
  go_wp2_with fail
  all_goals (go_ret;refine⟨Qn ?_,hB⟩;rw[HE.out])
  all_goals (try simp only[Bool.not_eq_eq_eq_not]at *)
  all_goals (try simp only[Bool.not_true]at *)
  all_goals (try simp only[Bool.not_false]at *)
  all_goals (try simp only[bne_iff_ne]at *)
  all_goals (try simp only[ne_eq]at *)
  all_goals (try simp only[bne_eq_false_iff_eq]at *)
  all_goals (try simp only[ZV]at *)
  all_goals (try simp only[tol_f]at *)
  all_goals (try simp only[tol_t]at *)
  all_goals (first|(exfalso;omega)|(rw[if_pos (by omega)];done)|(rw[if_neg (by omega)];done))
theorem qKj (t:Tr)(ve vk:Value)(w:World)(h:t.rd w w.heap.size ve vk)(hN:t.sz<=90000)(hR:∀ d∈ownD t,0<=d.n/\d.n<=1099511627778) :
  Calls Tryz.prog 152 #[.agg #[ve,vk]] w (RetO w 45 3 (fun _=>SpE) (ctxOf (ownD t))):=by
 obtain⟨es,ks⟩:=t
 have hsl:=(QA.1 h).1
 have hz:es.length<=90000:=by rw[Tr.sz]at hN;omega
 have hD:(Tr.mk es []).dots=ownD (.mk es ks):=by unfold ownD;rw[Tr.dots,Tr.dotsL,List.append_nil];rfl
 obtain⟨A3,n3,A4,n4,rfl,rfl⟩:=Qj h
 have HE:Hid (∀ w',Below w.heap.size w w'->(Tr.mk es []).rd w' w'.heap.size (.slice A3 es.length n3) (.slice none 0 0)):=fun w' hb=>QA.2 ⟨hsl.imp hb hb.size fun _ _ _ h=>h,SlP.nil⟩
 have HRR:Hid (∀ d∈(Tr.mk es []).dots,0<=d.n/\d.n<=1099511627778):=by unfold Hid;rw[hD];exact hR
 have hb0:Below w.heap.size w (w.alloc (.cells #[.slice A3 (Tr.mk es ks).es.length n3,.slice A4 (Tr.mk es ks).ks.length n4] 25)):=(Below.refl _ w).alloc (Nat.le_refl _) _
 clear h hsl
 go_enter Tryz.func152,Tryz.ntmps152
 go_wp2_with fail
 refine (Zl (.mk es []) _ _ _ (HE.out _ hb0) (by rw[Tr.sz,Tr.szL];omega) HRR.out).mono ?_
 rw[hD]
 rintro e w1 ⟨v1,rfl,ho1,hb1⟩
 go_wp2_with fail
 go_ret
 exact⟨_,rfl,ho1.mono (by simp),hb0.trans (hb1.mono (by simp))⟩
theorem zX2 {d:Dt}{l:List Dt}(hd:d.right=true)(hl:∀ x∈l,x.right=true):ctxOf (d :: l)=ctxBy (ctxOf l) [⟨d.dc,d.n,d.n⟩] 0:=by
 rw[Ys,Xa]
 refine qX6 fun i hi=>?_
 rw[KW l hi]
 have hb:=(Vx hd).2
 have hda:∀ x∈d :: l,x.right=true:=fun x hx=>by
  rcases List.mem_cons.1 hx with rfl|hx
  ·exact hd
  ·exact hl x hx
 obtain⟨a1,a2⟩:=ZN (J7 hda (i:Int))
 obtain⟨b1,b2⟩:=ZN (J7 hl (i:Int))
 have hp:∀ r∈partL [(⟨d.dc,d.n,d.n⟩:Sp)] (i:Int),runOk r:=fun r hr=>by
  unfold partL at hr
  obtain⟨s,hs,rfl⟩:=List.mem_map.1 hr
  have:=(List.mem_filter.1 hs).1
  simp at this;subst this
  exact⟨hb.1,Int.le_refl _,hb.2⟩
 obtain⟨c1,c2⟩:=Yi (a:=ofL (numsL l (i:Int))) (b:=partL [(⟨d.dc,d.n,d.n⟩:Sp)] (i:Int)) 0 (Ka _ none b1) hp
 refine YF _ _ none none a1 c1 fun n=>?_
 rw[c2,Bool.eq_iff_iff,a2]
 have hn:(hasL (ofL (numsL l (i:Int))) n=true)↔n∈numsL l (i:Int):=b2 n
 simp only[inn,if_neg (show ¬((0:Int)=2) by decide),if_neg (show ¬((0:Int)=1) by decide),Bool.or_eq_true,hn]
 by_cases e:d.dc=(i:Int)
 ·have h1:numsL (d :: l) (i:Int)=d.n :: numsL l (i:Int):=by simp[numsL,e]
  have h2:partL [(⟨d.dc,d.n,d.n⟩:Sp)] (i:Int)=[(d.n,d.n)]:=by simp[partL,e]
  rw[h1,h2,List.mem_cons]
  simp[hasL,inR]
  constructor
  ·rintro (h|h)
   ·exact .inr ⟨by omega,by omega⟩
   ·exact .inl h
  ·rintro (h|⟨h,k⟩)
   ·exact .inr h
   ·exact .inl (by omega)
 ·have h1:numsL (d :: l) (i:Int)=numsL l (i:Int):=by simp[numsL,e]
  have h2:partL [(⟨d.dc,d.n,d.n⟩:Sp)] (i:Int)=[]:=by simp[partL,e]
  rw[h1,h2];simp[hasL]
theorem zX6 (a b d e:Int)(w:World):(binOp .neq 78 (.agg #[.int .i64 a,.int .i64 b]) (.agg #[.int .i64 d,.int .i64 e])).run Tryz.prog w=.ok (.bool (!decide (a=d/\b=e))) w:=by
 have u3:=Tryz.underlying3
 have u2:=Tryz.underlying2
 have hS:Tryz.prog.underlying 78=some (.struct (Tryz.prog.fieldsOf 78)):=by kernel_rfl
 have hp:Tryz.prog.stoodInHeld 78=false:=by kernel_rfl
 rw[run_neq_struct,show (10000:Nat)=9999+1 from rfl,run_equalIn_agg w 9999 78 _ _ hS hp]
 simp only[Program.fieldsOf,Tryz.underlying78]
 go_simp
 by_cases h1:a=d<;>by_cases h2:b=e<;>simp[h1,h2]
theorem qQ5 (a b:Lf)(A1 A2:Option Addr)(c1 c2:Nat)(w:World)(ha:SlP w w.heap.size 1 StE (.slice A1 a.1.length c1) a.1)(hb:SlP w w.heap.size 1 StE (.slice A2 b.1.length c2) b.1) :
  Calls Tryz.prog 153 #[.agg #[.slice A1 a.1.length c1,.int .i64 a.2.dc,.int .i64 a.2.n,.string a.2.s,.int .i64 a.2.v],.agg #[.slice A2 b.1.length c2,.int .i64 b.2.dc,.int .i64 b.2.n,.string b.2.s,.int .i64 b.2.v]] w fun e w'=>e=.returned (.bool (Yv a b))/\Below w.heap.size w w':=by
 obtain⟨pa,xa⟩:=a
 obtain⟨pb,xb⟩:=b
 simp only at ha hb ⊢
 have HP:Hid (Yv (pa,xa) (pb,xb)=(decide (xa.dc=xb.dc/\xa.n=xb.n)&&decide (pa=pb))):=by
  unfold Hid Yv En.dot;simp only[Dt.mk.injEq]
 obtain⟨_,_,h1,_,b2,b3⟩:=ha
 cases h1
 obtain⟨_,_,h2,_,d2,d3⟩:=hb
 cases h2
 unfold Big at b2 d2
 have hb0:Below w.heap.size w ((w.alloc (.cells #[.slice A1 pa.length c1,.int .i64 xa.dc,.int .i64 xa.n,.string xa.s,.int .i64 xa.v] 91)).alloc (.cells #[.slice A2 pb.length c2,.int .i64 xb.dc,.int .i64 xb.n,.string xb.s,.int .i64 xb.v] 91)):=((Below.refl _ w).alloc (Nat.le_refl _) _).alloc (by simp) _
 have gg:=qU8
 have nn:=zX6
 go_enter Tryz.func153,Tryz.ntmps153
 cases hd:decide (xa.dc=xb.dc/\xa.n=xb.n)
 ·have HF:Hid (Yv (pa,xa) (pb,xb)=false):=by unfold Hid;rw[HP.out,hd];rfl
  go_wp2_with fail
  go_ret
  exact⟨Qf HF.out.symm,hb0⟩
 by_cases hl:pa.length=pb.length
 ·have hl':((pa.length:Int) != (pb.length:Int))=false:=by simp[hl]
  have HF:Hid (Yv (pa,xa) (pb,xb)=decide (pa=pb)):=by unfold Hid;rw[HP.out,hd];rfl
  have HL:=hid hl
  clear hl
  go_wp2_with fail
  clear hd gg nn
  go_loopw [25] (fun i wr=>∃ k:Nat,k<=pa.length/\i=.int .i64 k/\Hid (pa.take k=pb.take k)/\Below (w.heap.size+2) ((w.alloc (.cells #[.slice A1 pa.length c1,.int .i64 xa.dc,.int .i64 xa.n,.string xa.s,.int .i64 xa.v] 91)).alloc (.cells #[.slice A2 pb.length c2,.int .i64 xb.dc,.int .i64 xb.n,.string xb.s,.int .i64 xb.v] 91)) wr) (fun i _=>pa.length-(intOf i).toNat)
  case atStart=>exact⟨0,Nat.zero_le _,rfl,rfl,Below.refl _ _⟩
  case round=>
   obtain⟨k,hk,rfl,hrel,hb⟩:=hrel
   have hB:=hb0.trans (hb.mono (by omega))
   have q0:wr.cell? ⟨w.heap.size,0,none⟩=some (.slice A1 pa.length c1):=by rw[hb.cell (p:=⟨w.heap.size,0,none⟩) (by simp)];rw[World.cell?_alloc_lt _ _ _ (by simp)];simp
   have q1:wr.cell? ⟨w.heap.size+1,0,none⟩=some (.slice A2 pb.length c2):=by rw[hb.cell (p:=⟨w.heap.size+1,0,none⟩) (by simp)];simp
   by_cases hlt:k<pa.length
   ·have hlt':k<pb.length:=by rw[←HL.out];exact hlt
    obtain⟨x,hx⟩:∃ x,pa[k]?=some x:=⟨_,List.getElem?_eq_getElem hlt⟩
    obtain⟨y,hy⟩:∃ y,pb[k]?=some y:=⟨_,List.getElem?_eq_getElem hlt'⟩
    obtain⟨b,off,rfl,hbB,hc⟩:=b3 (by rintro rfl;simp at hlt)
    obtain⟨b',off',rfl,hbB',hc'⟩:=d3 (by rintro rfl;simp at hlt')
    obtain⟨cs,⟨rfl,_⟩,_,hu⟩:=hc k _ hx
    obtain⟨cs',⟨rfl,_⟩,_,hu'⟩:=hc' k _ hy
    have e0:wr.cell? ⟨b,off+k,none⟩=some (.string x):=(hB.cell (p:=⟨b,off+k,none⟩) hbB).trans (by simpa using hu 0 _ rfl)
    have e1:wr.cell? ⟨b',off'+k,none⟩=some (.string y):=(hB.cell (p:=⟨b',off'+k,none⟩) hbB').trans (by simpa using hu' 0 _ rfl)
    have HT:=hid (ZY hx hy hrel.out)
    have HXY:Hid (pa=pb->x=y):=fun e=>by rw[e]at hx;rw[hx]at hy;exact (Option.some.inj hy)
    clear hu hu' hc hc' b3 d3 hx hy
    have hi1:((k:Int))<(pa.length:Int):=by omega
    have hi2:((k:Int))<(pb.length:Int):=by omega
    by_cases hxy:x=y
    ·have hb1:(x.toList==y.toList)=true:=by rw[hxy];simp
     have hE:=hid hxy
     clear hxy
     go_wp2_with fail
     go_quiet (fail)
     go_wp2_with fail
     go_roundw
     case rel=>exact⟨k+1,by omega,by go_num,HT.out.2 hE.out,below_drewN hb nq⟩
     case measure=>simp[intOf];omega
    ·have hb1:(x.toList==y.toList)=false:=by simpa[QM] using hxy
     have hE:=hid hxy
     clear hxy
     go_wp2_with fail
     go_quiet (fail)
     go_wp2_with fail
     go_ret
     exact⟨Qf (by rw[HF.out];simpa using fun e=>hE.out (HXY.out e)),hb0.trans ((below_drewN hb nq).mono (by omega))⟩
   ·obtain rfl:k=pa.length:=by omega
    have HR:Hid (pa=pb):=by
     have h:=hrel.out
     rw[List.take_of_length_le (Nat.le_refl _),List.take_of_length_le (by rw[HL.out];exact Nat.le_refl _)]at h
     exact h
    go_wp2_with fail
    go_ret
    exact⟨Qf (by rw[HF.out];simp[HR.out]),hB⟩
 ·have hl':((pa.length:Int) != (pb.length:Int))=true:=by simp;omega
  have HF:Hid (Yv (pa,xa) (pb,xb)=false):=by unfold Hid;rw[HP.out,hd];simp;exact fun e=>hl (by rw[e])
  clear hl
  go_wp2_with fail
  go_ret
  exact⟨Qf HF.out.symm,hb0⟩
def lf0:Lf:=([],⟨0,0,ByteArray.empty,0⟩)
def fndZ (l:List Lf)(x:Lf):Lf:=(findL l x).getD lf0
theorem box5 {w:World}{g:Nat}{x y z u v:Value}{e:TypeId}(hbx:w.heap[g]?=some (.cells #[x,y,z,u,v] e (0,0)))(a b c d f:Value) :
  (((((w.setCell ⟨g,0,none⟩ a).setCell ⟨g,1,none⟩ b).setCell ⟨g,2,none⟩ c).setCell ⟨g,3,none⟩ d).setCell ⟨g,4,none⟩ f).heap[g]?=some (.cells #[a,b,c,d,f] e (0,0)) /\
   (∀ k,k≠g->(((((w.setCell ⟨g,0,none⟩ a).setCell ⟨g,1,none⟩ b).setCell ⟨g,2,none⟩ c).setCell ⟨g,3,none⟩ d).setCell ⟨g,4,none⟩ f).heap[k]?=w.heap[k]?)/\(((((w.setCell ⟨g,0,none⟩ a).setCell ⟨g,1,none⟩ b).setCell ⟨g,2,none⟩ c).setCell ⟨g,3,none⟩ d).setCell ⟨g,4,none⟩ f).heap.size=w.heap.size:=by
 have hW:=Qe (i:=4) (Qe (i:=3) (Qe (i:=2) (Qe (i:=1) (Qe (i:=0) hbx a) b) c) d) f
 exact⟨by simpa using hW,fun k hk=>(Below.heap_setCell _ _ _ _ hk).trans ((Below.heap_setCell _ _ _ _ hk).trans ((Below.heap_setCell _ _ _ _ hk).trans ((Below.heap_setCell _ _ _ _ hk).trans (Below.heap_setCell _ _ _ _ hk)))),by simp[World.setCell]⟩
def RetF (w:World)(ok:Nat->Prop)(z:Lf)(b:Bool)(e:Ending)(w':World):Prop:=
 ∃ A c,e=.returned (.tuple #[.agg #[.slice A z.1.length c,.int .i64 z.2.dc,.int .i64 z.2.n,.string z.2.s,.int .i64 z.2.v],.bool b])/\SlA w ok 1 StE (.slice A z.1.length c) z.1/\z.2.Ok/\Below w.heap.size w w'
theorem qJa (ok:Nat->Prop)(l:List Lf)(x:Lf)(vl:Value)(A1:Option Addr)(c1:Nat)(w:World)(hok':∀ b,ok b->b<w.heap.size)(h:SlP w w.heap.size 5 (LfA w ok) vl l)(hx:SlA w (fun b=>b<w.heap.size) 1 StE (.slice A1 x.1.length c1) x.1) :
  Calls Tryz.prog 109 #[vl,.agg #[.slice A1 x.1.length c1,.int .i64 x.2.dc,.int .i64 x.2.n,.string x.2.s,.int .i64 x.2.v]] w (RetF w ok (fndZ l x) (findL l x).isSome):=by
 have HXP:Hid (∀ w',Below w.heap.size w w'->SlP w' w'.heap.size 1 StE (.slice A1 x.1.length c1) x.1):=fun w' hb=>Z8.2 (hx.up (fun b hb'=>hb.block b hb') (fun b hb'=>Nat.lt_of_lt_of_le hb' hb.size) fun _ _ _ h=>h)
 have HZ:Hid (fndZ l x=(findL l x).getD lf0):=rfl
 have HFE:Hid (findL l x=l.find? fun y=>Yv y x):=rfl
 obtain⟨A,m,rfl,b1,b2,b3⟩:=h
 unfold Big at b2
 have hb0:Below w.heap.size w ((w.alloc (.cells #[.slice A1 x.1.length c1,.int .i64 x.2.dc,.int .i64 x.2.n,.string x.2.s,.int .i64 x.2.v] 91)).alloc (.cells #[.slice none 0 0,.int .i64 0,.int .i64 0,.string ByteArray.empty,.int .i64 0] 91)):=((Below.refl _ w).alloc (Nat.le_refl _) _).alloc (by simp) _
 clear hx
 go_enter Tryz.func109,Tryz.ntmps109
 go_wp2_with fail
 go_loopw [9] (fun i wr=>∃ k:Nat,k<=l.length/\i=.int .i64 k/\Hid (∀ y∈l.take k,Yv y x=false)/\Below (w.heap.size+2) ((w.alloc (.cells #[.slice A1 x.1.length c1,.int .i64 x.2.dc,.int .i64 x.2.n,.string x.2.s,.int .i64 x.2.v] 91)).alloc (.cells #[.slice none 0 0,.int .i64 0,.int .i64 0,.string ByteArray.empty,.int .i64 0] 91)) wr) (fun i _=>l.length-(intOf i).toNat)
 case atStart=>exact⟨0,Nat.zero_le _,rfl,fun y hy=>by simp at hy,Below.refl _ _⟩
 case round=>
  obtain⟨k,hk,rfl,hno,hb⟩:=hrel
  have hB:=hb0.trans (hb.mono (by omega))
  have g1:wr.heap[w.heap.size+1]?=some (.cells #[.slice none 0 0,.int .i64 0,.int .i64 0,.string ByteArray.empty,.int .i64 0] 91 (0,0)):=(hb.block _ (by omega)).trans (Qd (by simp))
  have hsz:=hb.size
  simp only[World.size_alloc]at hsz
  by_cases hlt:k<l.length
  ·obtain⟨⟨p,y⟩,hy⟩:∃ y,l[k]?=some y:=⟨_,List.getElem?_eq_getElem hlt⟩
   obtain⟨b,off,rfl,hbB,hc⟩:=b3 (by rintro rfl;simp at hlt)
   obtain⟨cs,⟨A2,c2,rfl,hp,hok⟩,_,hu⟩:=hc k _ hy
   have e0:wr.cell? ⟨b,off+k*5,none⟩=some (.slice A2 p.length c2):=(hB.cell hbB).trans (hu 0 _ rfl)
   have e1:wr.cell? ⟨b,off+k*5+1,none⟩=some (.int .i64 y.dc):=(hB.cell hbB).trans (hu 1 _ rfl)
   have e2:wr.cell? ⟨b,off+k*5+2,none⟩=some (.int .i64 y.n):=(hB.cell hbB).trans (hu 2 _ rfl)
   have e3:wr.cell? ⟨b,off+k*5+3,none⟩=some (.string y.s):=(hB.cell hbB).trans (hu 3 _ rfl)
   have e4:wr.cell? ⟨b,off+k*5+4,none⟩=some (.int .i64 y.v):=(hB.cell hbB).trans (hu 4 _ rfl)
   have HX:Hid (∀ W,Below (w.heap.size+2) ((w.alloc (.cells #[.slice A1 x.1.length c1,.int .i64 x.2.dc,.int .i64 x.2.n,.string x.2.s,.int .i64 x.2.v] 91)).alloc (.cells #[.slice none 0 0,.int .i64 0,.int .i64 0,.string ByteArray.empty,.int .i64 0] 91)) W->Below w.heap.size w W/\W.heap[w.heap.size+1]?=some (.cells #[.slice none 0 0,.int .i64 0,.int .i64 0,.string ByteArray.empty,.int .i64 0] 91 (0,0))/\(W.cell? ⟨b,off+k*5,none⟩=some (.slice A2 p.length c2)/\W.cell? ⟨b,off+k*5+1,none⟩=some (.int .i64 y.dc)/\W.cell? ⟨b,off+k*5+2,none⟩=some (.int .i64 y.n)/\W.cell? ⟨b,off+k*5+3,none⟩=some (.string y.s)/\W.cell? ⟨b,off+k*5+4,none⟩=some (.int .i64 y.v) /\
     W.cell? ⟨w.heap.size,0,none⟩=some (.slice A1 x.1.length c1)/\W.cell? ⟨w.heap.size,1,none⟩=some (.int .i64 x.2.dc)/\W.cell? ⟨w.heap.size,2,none⟩=some (.int .i64 x.2.n)/\W.cell? ⟨w.heap.size,3,none⟩=some (.string x.2.s)/\W.cell? ⟨w.heap.size,4,none⟩=some (.int .i64 x.2.v))):=fun W hW=>by
    have hB:=hb0.trans (hW.mono (by omega))
    have g0:W.heap[w.heap.size]?=some (.cells #[.slice A1 x.1.length c1,.int .i64 x.2.dc,.int .i64 x.2.n,.string x.2.s,.int .i64 x.2.v] 91 (0,0)):=(hW.block _ (by omega)).trans ((Qg (by simp)).trans (Qd rfl))
    exact⟨hB,(hW.block _ (by omega)).trans (Qd (by simp)),(hB.cell hbB).trans (hu 0 _ rfl),(hB.cell hbB).trans (hu 1 _ rfl),(hB.cell hbB).trans (hu 2 _ rfl),(hB.cell hbB).trans (hu 3 _ rfl),(hB.cell hbB).trans (hu 4 _ rfl),Qa (i:=0) g0,Qa (i:=1) g0,Qa (i:=2) g0,Qa (i:=3) g0,Qa (i:=4) g0⟩
   have HPP:Hid (∀ w',Below w.heap.size w w'->SlP w' w'.heap.size 1 StE (.slice A2 p.length c2) p):=fun w' hb=>Z8.2 (hp.up (fun b hb'=>hb.block b (hok' b hb')) (fun b hb'=>Nat.lt_of_lt_of_le (hok' b hb') hb.size) fun _ _ _ h=>h)
   have HSP:=hid hp
   have HOK:=hid hok
   have htk:l.take (k+1)=l.take k++[(p,y)]:=by rw[List.take_add_one,hy];rfl
   have hdr:l=l.take k++(p,y) :: l.drop (k+1):=by
    have:=List.take_append_drop (k+1) l
    rw[htk,List.append_assoc]at this
    exact this.symm
   have HTK:=hid htk
   have HDR:=hid hdr
   have HWR:=hid hb
   clear hu hc b3 hy hp hok g1 htk hdr hb0
   cases hpl:Yv (p,y) x
   ·have HPL:=hid hpl
    clear hpl
    obtain⟨q0,q1,q2,q3,q4⟩:=(HX.out _ HWR.out).2.2.2.2.2.2.2
    go_upto_region 4 with (fail)
    go_region_held3 (fun W=>W.cell? ⟨b,off+k*5,none⟩=some (.slice A2 p.length c2)/\W.cell? ⟨b,off+k*5+1,none⟩=some (.int .i64 y.dc)/\W.cell? ⟨b,off+k*5+2,none⟩=some (.int .i64 y.n)/\W.cell? ⟨b,off+k*5+3,none⟩=some (.string y.s)/\W.cell? ⟨b,off+k*5+4,none⟩=some (.int .i64 y.v)/\W.cell? ⟨w.heap.size,0,none⟩=some (.slice A1 x.1.length c1)/\W.cell? ⟨w.heap.size,1,none⟩=some (.int .i64 x.2.dc)/\W.cell? ⟨w.heap.size,2,none⟩=some (.int .i64 x.2.n)/\W.cell? ⟨w.heap.size,3,none⟩=some (.string x.2.s)/\W.cell? ⟨w.heap.size,4,none⟩=some (.int .i64 x.2.v))
     (first|go_keep|exact (HX.out _ hbk1.out).2.2|exact (HX.out _ (HWR.out.drew)).2.2)
     (first|(go_at_call 153;go_loud ((refine (qQ5 (p,y) x A2 A1 c2 c1 _ (HPP.out _ (HX.out _ (HWR.out.drew)).1) (HXP.out _ (HX.out _ (HWR.out.drew)).1)).mono ?_);rw[HPL.out];rintro e w1 ⟨rfl,hb1⟩;have hbk1:=hid (HWR.out.drew.trans (hb1.mono (by simp;omega))));have hB1:=(HX.out _ hbk1.out).1;have HG1:=hid (HX.out _ hbk1.out).2.1;have k0:w1.cell? ⟨w.heap.size+1,0,none⟩=some (.slice none 0 0):=Qa (i:=0) HG1.out;have k1:w1.cell? ⟨w.heap.size+1,1,none⟩=some (.int .i64 0):=Qa (i:=1) HG1.out;have k2:w1.cell? ⟨w.heap.size+1,2,none⟩=some (.int .i64 0):=Qa (i:=2) HG1.out;have k3:w1.cell? ⟨w.heap.size+1,3,none⟩=some (.string ByteArray.empty):=Qa (i:=3) HG1.out;have k4:w1.cell? ⟨w.heap.size+1,4,none⟩=some (.int .i64 0):=Qa (i:=4) HG1.out;have z0:=Qb (i:=0) HG1.out;have z1:=Qb (i:=1) HG1.out;have z2:=Qb (i:=2) HG1.out;have z3:=Qb (i:=3) HG1.out;have z4:=Qb (i:=4) HG1.out;have f0:=(HX.out _ hbk1.out).2.2.1;have f1:=(HX.out _ hbk1.out).2.2.2.1;have f2:=(HX.out _ hbk1.out).2.2.2.2.1;have f3:=(HX.out _ hbk1.out).2.2.2.2.2.1;have f4:=(HX.out _ hbk1.out).2.2.2.2.2.2.1;obtain⟨f5,f6,f7,f8,f9⟩:=(HX.out _ hbk1.out).2.2.2.2.2.2.2))
    all_goals (
     go_wp2_with fail
     go_roundw
     case rel=>
      refine⟨k+1,by omega,by go_num,fun z hz=>?_,hbk1.out⟩
      rw[HTK.out]at hz
      rcases List.mem_append.1 hz with hz|hz
      ·exact hno.out z hz
      ·simp at hz;subst hz;exact HPL.out
     case measure=>simp[intOf];omega)
   ·have HPL:=hid hpl
    clear hpl
    obtain⟨q0,q1,q2,q3,q4⟩:=(HX.out _ HWR.out).2.2.2.2.2.2.2
    go_upto_region 4 with (fail)
    go_region_held3 (fun W=>W.cell? ⟨b,off+k*5,none⟩=some (.slice A2 p.length c2)/\W.cell? ⟨b,off+k*5+1,none⟩=some (.int .i64 y.dc)/\W.cell? ⟨b,off+k*5+2,none⟩=some (.int .i64 y.n)/\W.cell? ⟨b,off+k*5+3,none⟩=some (.string y.s)/\W.cell? ⟨b,off+k*5+4,none⟩=some (.int .i64 y.v)/\W.cell? ⟨w.heap.size,0,none⟩=some (.slice A1 x.1.length c1)/\W.cell? ⟨w.heap.size,1,none⟩=some (.int .i64 x.2.dc)/\W.cell? ⟨w.heap.size,2,none⟩=some (.int .i64 x.2.n)/\W.cell? ⟨w.heap.size,3,none⟩=some (.string x.2.s)/\W.cell? ⟨w.heap.size,4,none⟩=some (.int .i64 x.2.v))
     (first|go_keep|exact (HX.out _ hbk1.out).2.2|exact (HX.out _ (HWR.out.drew)).2.2)
     (first|(go_at_call 153;go_loud ((refine (qQ5 (p,y) x A2 A1 c2 c1 _ (HPP.out _ (HX.out _ (HWR.out.drew)).1) (HXP.out _ (HX.out _ (HWR.out.drew)).1)).mono ?_);rw[HPL.out];rintro e w1 ⟨rfl,hb1⟩;have hbk1:=hid (HWR.out.drew.trans (hb1.mono (by simp;omega))));have hB1:=(HX.out _ hbk1.out).1;have HG1:=hid (HX.out _ hbk1.out).2.1;have k0:w1.cell? ⟨w.heap.size+1,0,none⟩=some (.slice none 0 0):=Qa (i:=0) HG1.out;have k1:w1.cell? ⟨w.heap.size+1,1,none⟩=some (.int .i64 0):=Qa (i:=1) HG1.out;have k2:w1.cell? ⟨w.heap.size+1,2,none⟩=some (.int .i64 0):=Qa (i:=2) HG1.out;have k3:w1.cell? ⟨w.heap.size+1,3,none⟩=some (.string ByteArray.empty):=Qa (i:=3) HG1.out;have k4:w1.cell? ⟨w.heap.size+1,4,none⟩=some (.int .i64 0):=Qa (i:=4) HG1.out;have z0:=Qb (i:=0) HG1.out;have z1:=Qb (i:=1) HG1.out;have z2:=Qb (i:=2) HG1.out;have z3:=Qb (i:=3) HG1.out;have z4:=Qb (i:=4) HG1.out;have f0:=(HX.out _ hbk1.out).2.2.1;have f1:=(HX.out _ hbk1.out).2.2.2.1;have f2:=(HX.out _ hbk1.out).2.2.2.2.1;have f3:=(HX.out _ hbk1.out).2.2.2.2.2.1;have f4:=(HX.out _ hbk1.out).2.2.2.2.2.2.1;obtain⟨f5,f6,f7,f8,f9⟩:=(HX.out _ hbk1.out).2.2.2.2.2.2.2))
    have hfl:findL l x=some (p,y):=by
     rw[HFE.out,HDR.out,List.find?_append,List.find?_eq_none.2 (fun z hz=>by rw[hno.out z hz];simp),List.find?_cons,HPL.out];rfl
    have hfz:fndZ l x=(p,y):=by rw[HZ.out,hfl];rfl
    have hfs:(findL l x).isSome=true:=by rw[hfl];rfl
    have HFZ:=hid hfz
    have HFS:=hid hfs
    clear hfl hfz hfs
    all_goals (
     go_wp2_with fail
     obtain⟨hW,hK,hS⟩:=box5 HG1.out (.slice A2 p.length c2) (.int .i64 y.dc) (.int .i64 y.n) (.string y.s) (.int .i64 y.v)
     have hBW:=((((hB1.setCell (p:=⟨w.heap.size+1,0,none⟩) (by simp) (.slice A2 p.length c2)).setCell (p:=⟨w.heap.size+1,1,none⟩) (by simp) (.int .i64 y.dc)).setCell (p:=⟨w.heap.size+1,2,none⟩) (by simp) (.int .i64 y.n)).setCell (p:=⟨w.heap.size+1,3,none⟩) (by simp) (.string y.s)).setCell (p:=⟨w.heap.size+1,4,none⟩) (by simp) (.int .i64 y.v)
     clear k0 k1 k2 k3 k4 z0 z1 z2 z3 z4
     generalize (((((w1.setCell ⟨w.heap.size+1,0,none⟩ (.slice A2 p.length c2)).setCell ⟨w.heap.size+1,1,none⟩ (.int .i64 y.dc)).setCell ⟨w.heap.size+1,2,none⟩ (.int .i64 y.n)).setCell ⟨w.heap.size+1,3,none⟩ (.string y.s)).setCell ⟨w.heap.size+1,4,none⟩ (.int .i64 y.v))=W at *
     have r0:=Qa (i:=0) hW
     have r1:=Qa (i:=1) hW
     have r2:=Qa (i:=2) hW
     have r3:=Qa (i:=3) hW
     have r4:=Qa (i:=4) hW
     simp only[List.getElem?_toArray,List.getElem?_cons_zero,List.getElem?_cons_succ]at r0 r1 r2 r3 r4
     refine bodyPost_ret (v:=.tuple #[.agg #[.slice A2 p.length c2,.int .i64 y.dc,.int .i64 y.n,.string y.s,.int .i64 y.v],.bool true]) (by simp[results,Tryz.results109,go_sem,r0,r1,r2,r3,r4]) rfl ⟨A2,c2,by rw[HFZ.out,HFS.out],by rw[HFZ.out];exact HSP.out,by rw[HFZ.out];exact HOK.out,hBW⟩)
  ·obtain rfl:k=l.length:=by omega
   have hfl:findL l x=none:=by
    rw[HFE.out]
    rw[List.take_of_length_le (Nat.le_refl _)]at hno
    exact List.find?_eq_none.2 fun z hz=>by rw[hno.out z hz];simp
   have hfz:fndZ l x=lf0:=by rw[HZ.out,hfl];rfl
   have hfs:(findL l x).isSome=false:=by rw[hfl];rfl
   have HFZ:=hid hfz
   have HFS:=hid hfs
   clear hfl hfz hfs
   have HG1:=hid g1
   have k0:wr.cell? ⟨w.heap.size+1,0,none⟩=some (.slice none 0 0):=Qa (i:=0) HG1.out
   have k1:wr.cell? ⟨w.heap.size+1,1,none⟩=some (.int .i64 0):=Qa (i:=1) HG1.out
   have k2:wr.cell? ⟨w.heap.size+1,2,none⟩=some (.int .i64 0):=Qa (i:=2) HG1.out
   have k3:wr.cell? ⟨w.heap.size+1,3,none⟩=some (.string ByteArray.empty):=Qa (i:=3) HG1.out
   have k4:wr.cell? ⟨w.heap.size+1,4,none⟩=some (.int .i64 0):=Qa (i:=4) HG1.out
   have z0:=Qb (i:=0) HG1.out
   have z1:=Qb (i:=1) HG1.out
   have z2:=Qb (i:=2) HG1.out
   have z3:=Qb (i:=3) HG1.out
   have z4:=Qb (i:=4) HG1.out
   go_wp2_with fail
   obtain⟨hW,hK,hS⟩:=box5 HG1.out (.slice none 0 0) (.int .i64 0) (.int .i64 0) (.string ⟨#[]⟩) (.int .i64 0)
   have hBW:=((((hB.setCell (p:=⟨w.heap.size+1,0,none⟩) (by simp) (.slice none 0 0)).setCell (p:=⟨w.heap.size+1,1,none⟩) (by simp) (.int .i64 0)).setCell (p:=⟨w.heap.size+1,2,none⟩) (by simp) (.int .i64 0)).setCell (p:=⟨w.heap.size+1,3,none⟩) (by simp) (.string ⟨#[]⟩)).setCell (p:=⟨w.heap.size+1,4,none⟩) (by simp) (.int .i64 0)
   clear k0 k1 k2 k3 k4 z0 z1 z2 z3 z4
   generalize (((((wr.setCell ⟨w.heap.size+1,0,none⟩ (.slice none 0 0)).setCell ⟨w.heap.size+1,1,none⟩ (.int .i64 0)).setCell ⟨w.heap.size+1,2,none⟩ (.int .i64 0)).setCell ⟨w.heap.size+1,3,none⟩ (.string ⟨#[]⟩)).setCell ⟨w.heap.size+1,4,none⟩ (.int .i64 0))=W at *
   have r0:=Qa (i:=0) hW
   have r1:=Qa (i:=1) hW
   have r2:=Qa (i:=2) hW
   have r3:=Qa (i:=3) hW
   have r4:=Qa (i:=4) hW
   simp only[List.getElem?_toArray,List.getElem?_cons_zero,List.getElem?_cons_succ]at r0 r1 r2 r3 r4
   refine bodyPost_ret (v:=.tuple #[.agg #[.slice none 0 0,.int .i64 0,.int .i64 0,.string ⟨#[]⟩,.int .i64 0],.bool false]) (by simp[results,Tryz.results109,go_sem,r0,r1,r2,r3,r4]) rfl ⟨none,0,by rw[HFZ.out,HFS.out];rfl,by rw[HFZ.out];exact SlA.nil,by rw[HFZ.out];exact⟨⟨by decide,by decide⟩,⟨by decide,by decide⟩,⟨by decide,by decide⟩,by simp[lf0,Big]⟩,hBW⟩
theorem slLf {W0 W:World}{ok ok':Nat->Prop}{v:Value}{l:List Lf}(h:SlP W0 W0.heap.size 5 (LfA W0 ok) v l)(hb:Below W0.heap.size W0 W)(ho:∀ b,ok b->b<W0.heap.size)(ho':∀ b,ok b->ok' b):SlP W W.heap.size 5 (LfA W ok') v l:=
 h.imp hb hb.size fun _ _ _ hx=>LfA.mon.up (fun b hb'=>hb.block b (ho b hb')) (fun b hb'=>ho' b hb') hx
theorem KB {W:World}{n:Nat}{v:Value}{z:Lf}{A:Option Addr}{c:Nat}(e:TypeId)(hp:SlA W (fun b=>b<n) 1 StE (.slice A z.1.length c) z.1)(hk:z.2.Ok)(hv:∀ g,v.ownBlock=some g->n<=g)(hn:n<=W.heap.size) :
  SlP (W.alloc (.cells #[.slice A z.1.length c,.int .i64 z.2.dc,.int .i64 z.2.n,.string z.2.s,.int .i64 z.2.v] e)) (W.alloc (.cells #[.slice A z.1.length c,.int .i64 z.2.dc,.int .i64 z.2.n,.string z.2.s,.int .i64 z.2.v] e)).heap.size 5 (LfA (W.alloc (.cells #[.slice A z.1.length c,.int .i64 z.2.dc,.int .i64 z.2.n,.string z.2.s,.int .i64 z.2.v] e)) (fun b=>b<n/\b<(W.alloc (.cells #[.slice A z.1.length c,.int .i64 z.2.dc,.int .i64 z.2.n,.string z.2.s,.int .i64 z.2.v] e)).heap.size/\v.ownBlock≠some b)) (.slice (some ⟨W.heap.size,0,none⟩) 1 1) [z]:=
 SlP.oneB (x:=z) (cs:=[.slice A z.1.length c,.int .i64 z.2.dc,.int .i64 z.2.n,.string z.2.s,.int .i64 z.2.v]) ⟨A,c,rfl,hp.up (fun b hb=>Qg (Nat.lt_of_lt_of_le hb hn)) (fun b hb=>⟨hb,by simp;omega,fun e=>by have:=hv b e;omega⟩) fun _ _ _ h=>h,hk⟩ rfl e rfl (by simp)
theorem qQ6 {l:List Lf}{k:Nat}{x:Lf}(h:l[k]?=some x)(f:Lf->List Lf):(l.take (k+1)).flatMap f=(l.take k).flatMap f++f x:=by
 rw[List.take_add_one,h,List.flatMap_append];simp
theorem YQ (f:Lf->List Lf)(hf:∀ x,(f x).length<=1):∀ l:List Lf,(l.flatMap f).length<=l.length
 |[]=>by simp
 |x :: l=>by
  have h1:=hf x
  have h2:=YQ f hf l
  rw[List.flatMap_cons,List.length_append,List.length_cons];omega
theorem qXb (ca cb:List Sp)(a b:Tr)(va ka vb kb vca vcb:Value)(w:World)(ha:a.rd w w.heap.size va ka)(hb:b.rd w w.heap.size vb kb)(hca:SlP w w.heap.size 3 SpE vca ca)(hcb:SlP w w.heap.size 3 SpE vcb cb)(hza:a.sz<=4000)(hzb:b.sz<=4000)(hra:SpsOk ca)(hrb:SpsOk cb)(hN1:ca.length<=20000)(hN2:cb.length<=20000) :
  Calls Tryz.prog 63 #[.agg #[va,ka,vca],.agg #[vb,kb,vcb]] w (RetC w (QC (r9L (a.lvs []) (b.lvs []) ca cb)) (ctxBy ca cb 0)):=by
 have HA:=hid ha
 have HB:=hid hb
 have HCA:Hid (∀ w',Below w.heap.size w w'->SlP w' w'.heap.size 3 SpE vca ca):=fun w' hb=>hca.imp hb hb.size fun _ _ _ h=>h
 have HCB:Hid (∀ w',Below w.heap.size w w'->SlP w' w'.heap.size 3 SpE vcb cb):=fun w' hb=>hcb.imp hb hb.size fun _ _ _ h=>h
 have HR1:=hid hra
 have HR2:=hid hrb
 have hul:=Zj ca cb 0 4
 have HUL:Hid ((ctxBy ca cb 0).length<=Big):=by unfold Hid ctxBy Big;omega
 have hlp:=lvs_len a []
 have hlq:=lvs_len b []
 obtain⟨A1,n1,A2,n2,rfl,rfl⟩:=Qj ha
 obtain⟨A3,n3,A4,n4,rfl,rfl⟩:=Qj hb
 obtain⟨A5,n5,rfl,_⟩:=hca
 obtain⟨A6,n6,rfl,_⟩:=hcb
 have HX:Hid (∀ W,Below (w.heap.size+3) (((w.alloc (.cells #[.slice A1 a.es.length n1,.slice A2 a.ks.length n2,.slice A5 ca.length n5] 29)).alloc (.cells #[.slice A3 b.es.length n3,.slice A4 b.ks.length n4,.slice A6 cb.length n6] 29)).alloc (.cells #[.slice none 0 0,.slice none 0 0,.slice none 0 0] 29)) W->Below w.heap.size w W/\W.heap[w.heap.size+2]?=some (.cells #[.slice none 0 0,.slice none 0 0,.slice none 0 0] 29 (0,0))/\w.heap.size+3<=W.heap.size/\(W.cell? ⟨w.heap.size,0,none⟩=some (.slice A1 a.es.length n1)/\W.cell? ⟨w.heap.size,1,none⟩=some (.slice A2 a.ks.length n2)/\W.cell? ⟨w.heap.size,2,none⟩=some (.slice A5 ca.length n5)/\W.cell? ⟨w.heap.size+1,0,none⟩=some (.slice A3 b.es.length n3)/\W.cell? ⟨w.heap.size+1,1,none⟩=some (.slice A4 b.ks.length n4)/\W.cell? ⟨w.heap.size+1,2,none⟩=some (.slice A6 cb.length n6))):=fun W hW=>by
  have g0:W.heap[w.heap.size]?=some (.cells #[.slice A1 a.es.length n1,.slice A2 a.ks.length n2,.slice A5 ca.length n5] 29 (0,0)):=(hW.block _ (by omega)).trans ((Qg (by simp<;>omega)).trans ((Qg (by simp)).trans (Qd rfl)))
  have g1:W.heap[w.heap.size+1]?=some (.cells #[.slice A3 b.es.length n3,.slice A4 b.ks.length n4,.slice A6 cb.length n6] 29 (0,0)):=(hW.block _ (by omega)).trans ((Qg (by simp)).trans (Qd (by simp)))
  have g2:W.heap[w.heap.size+2]?=some (.cells #[.slice none 0 0,.slice none 0 0,.slice none 0 0] 29 (0,0)):=(hW.block _ (by omega)).trans (Qd (by simp))
  exact⟨((((Below.refl _ w).alloc (Nat.le_refl _) _).alloc (by simp) _).alloc (by simp;omega) _).trans (hW.mono (by omega)),g2,by have:=hW.size;simpa using this,Qa (i:=0) g0,Qa (i:=1) g0,Qa (i:=2) g0,Qa (i:=0) g1,Qa (i:=1) g1,Qa (i:=2) g1⟩
 have hneA:w.heap.size+1+1≠w.heap.size:=by omega
 have hneB:w.heap.size≠w.heap.size+1+1:=by omega
 clear ha hb
 go_enter Tryz.func63,Tryz.ntmps63
 obtain⟨p0,p1,p2,p3,p4,p5⟩:=(HX.out _ (Below.refl _ _)).2.2.2
 go_upto_region 1 with (fail)
 go_region_held3 (fun w'=>w'.cell? ⟨w.heap.size,0,none⟩=some (.slice A1 a.es.length n1)/\w'.cell? ⟨w.heap.size,1,none⟩=some (.slice A2 a.ks.length n2)/\w'.cell? ⟨w.heap.size+1,0,none⟩=some (.slice A3 b.es.length n3)/\w'.cell? ⟨w.heap.size+1,1,none⟩=some (.slice A4 b.ks.length n4))
  (go_keep)
  (first
      |(have hq:=hbk1;go_at_call 41;go_loud ((refine (ZA b _ _ _ (Qi (HX.out _ hbk1.out).1 (HX.out _ hbk1.out).1.size _ _ _ HB.out) (by omega)).mono ?_);rintro e w2 ⟨v2,rfl,ho2,hb2⟩;obtain⟨Aq,cq,hv2⟩:=OwnP.shape ho2;subst hv2;have HOQ:=hid ho2;have HB2:=hid hb2;have hbk2:=hid (hbk1.out.trans (hb2.mono (HX.out _ hbk1.out).2.2.1));obtain⟨q0,q1,q2,q3,q4,q5⟩:=(HX.out _ hbk2.out).2.2.2;clear ho2 hb2))
      |(go_at_call 41;go_loud ((refine (ZA a _ _ _ (Qi (HX.out _ (by go_grown)).1 (HX.out _ (by go_grown)).1.size _ _ _ HA.out) (by omega)).mono ?_);rintro e w1 ⟨v1,rfl,ho1,hb1⟩;obtain⟨Ap,cp,hv1⟩:=OwnP.shape ho1;subst hv1;have HOP:=hid ho1;have hbk1:Hid (Below (w.heap.size+3) (((w.alloc (.cells #[.slice A1 a.es.length n1,.slice A2 a.ks.length n2,.slice A5 ca.length n5] 29)).alloc (.cells #[.slice A3 b.es.length n3,.slice A4 b.ks.length n4,.slice A6 cb.length n6] 29)).alloc (.cells #[.slice none 0 0,.slice none 0 0,.slice none 0 0] 29)) w1):=(Below.trans (by go_grown) (hb1.mono (by simp)));obtain⟨q0,q1,q2,q3,q4,q5⟩:=(HX.out _ hbk1.out).2.2.2;clear ho1 hb1)))
 have hs2:=(HX.out _ hbk2.out).2.2.1
 have HP:Hid (SlP w2 w2.heap.size 5 (LfA w2 (fun b=>b<w2.heap.size)) (.slice Ap (a.lvs []).length cp) (a.lvs [])):=slLf (HOP.out.sl LfA.mon (by unfold Big;omega)) HB2.out (fun b hb=>hb.2) (fun b hb=>Nat.lt_of_lt_of_le hb.2 HB2.out.size)
 have HQ:Hid (SlP w2 w2.heap.size 5 (LfA w2 (fun b=>b<w2.heap.size)) (.slice Aq (b.lvs []).length cq) (b.lvs [])):=slLf (HOQ.out.sl LfA.mon (by unfold Big;omega)) (Below.refl _ _) (fun b hb=>hb.2) (fun b hb=>hb.2)
 have hR9:r9L (a.lvs []) (b.lvs []) ca cb=(a.lvs []).flatMap (outP (b.lvs []) cb)++(b.lvs []).flatMap (outQ (a.lvs []) ca):=rfl
 have HR9:=hid hR9
 clear hR9 HOP HOQ HB2 q0 q1 q2 q3 q4 q5 p0 p1 p2 p3 p4 p5
 generalize a.lvs []=P at *
 generalize b.lvs []=Q at *
 go_wp2_with fail
 go_loopw [7,22] (fun v i wr=>∃ k:Nat,k<=P.length/\i=.int .i64 k/\OwnD wr w2.heap.size 91 5 LfA (fun b=>b<w2.heap.size) v ((P.take k).flatMap (outP Q cb))/\Below w2.heap.size w2 wr) (fun _ i _=>P.length-(intOf i).toNat)
 case atStart=>exact⟨0,Nat.zero_le _,rfl,OwnD.nil,Below.refl _ _⟩
 case round=>
  obtain⟨k,hk,rfl,hown,hb⟩:=hrel
  have hsz:=hb.size
  by_cases hlt:k<P.length
  ·obtain⟨⟨p,x⟩,hx⟩:∃ x,P[k]?=some x:=⟨_,List.getElem?_eq_getElem hlt⟩
   obtain⟨A,m,hv,c1,c2,c3⟩:=id HP.out
   cases hv
   obtain⟨bp,op,rfl,hbB,hc⟩:=c3 (by rintro rfl;simp at hlt)
   obtain⟨cs,⟨A7,c7,rfl,hp,hok⟩,_,hu⟩:=hc k _ hx
   have HE:Hid (∀ W,Below w2.heap.size w2 W->(W.cell? ⟨bp,op+k*5,none⟩=some (.slice A7 p.length c7)/\W.cell? ⟨bp,op+k*5+1,none⟩=some (.int .i64 x.dc)/\W.cell? ⟨bp,op+k*5+2,none⟩=some (.int .i64 x.n)/\W.cell? ⟨bp,op+k*5+3,none⟩=some (.string x.s)/\W.cell? ⟨bp,op+k*5+4,none⟩=some (.int .i64 x.v))/\SlA W (fun b=>b<w2.heap.size) 1 StE (.slice A7 p.length c7) p/\W.cell? ⟨w.heap.size+1,2,none⟩=some (.slice A6 cb.length n6)/\Below w.heap.size w W):=fun W hW=>
    ⟨⟨(hW.cell hbB).trans (hu 0 _ rfl),(hW.cell hbB).trans (hu 1 _ rfl),(hW.cell hbB).trans (hu 2 _ rfl),(hW.cell hbB).trans (hu 3 _ rfl),(hW.cell hbB).trans (hu 4 _ rfl)⟩,hp.up (fun b hb=>hW.block b hb) (fun _ h=>h) (fun _ _ _ h=>h),(HX.out W (hbk2.out.trans (hW.mono hs2))).2.2.2.2.2.2.2.2,(HX.out W (hbk2.out.trans (hW.mono hs2))).1⟩
   obtain⟨⟨e0,e1,e2,e3,e4⟩,hp',q5,hB⟩:=HE.out wr hb
   have HOK:=hid hok
   have HTK:=hid (qQ6 hx (outP Q cb))
   have hle:=YQ (outP Q cb) (qYh Q cb) (P.take k)
   rw[List.length_take]at hle
   have HL:Hid (∀ z:Lf,((P.take k).flatMap (outP Q cb)).length + [z].length<=Few):=fun z=>by unfold Few;rw[List.length_singleton];omega
   generalize (P.take k).flatMap (outP Q cb)=js at *
   have HOP:Hid (outP Q cb (p,x)=outP Q cb (p,x)):=rfl
   have hov:=hown.lt
   clear hu hc c3 hx hok hp
   go_wp2_with fail
   refine (qJa (fun b=>b<w2.heap.size) Q (p,x) _ A7 c7 wr (fun b hb=>Nat.lt_of_lt_of_le hb hsz) (slLf HQ.out hb (fun _ h=>h) fun _ h=>h) (hp'.up (fun _ _=>rfl) (fun b hb=>Nat.lt_of_lt_of_le hb hsz) fun _ _ _ h=>h)).mono ?_
   cases hf:findL Q (p,x) with
   |none=>
    have hfz:fndZ Q (p,x)=lf0:=by unfold fndZ;rw[hf];rfl
    rw[hfz]
    rintro e w3 ⟨Az,cz,rfl,hz,hzok,hb3⟩
    have HF:=hid hf
    clear hfz hf hz hzok
    simp only[lf0,List.length_nil,Option.isSome_none]
    have hb3':Below w2.heap.size w2 w3:=hb.trans (hb3.mono hsz)
    have hs3:=hb3.size
    obtain⟨⟨f0,f1,f2,f3,f4⟩,hp3,q6,hB3⟩:=HE.out w3 hb3'
    have hown3:=hown.grow LfA.mon hb3
    have hbp3:bp<w3.heap.size:=by omega
    have hbn3:bp≠w3.heap.size:=by omega
    go_wp2_with fail
    go_quiet (fail)
    have hb4:Below w3.heap.size w3 ((w3.alloc (.cells #[.slice Az 0 cz,.int .i64 0,.int .i64 0,.string ByteArray.empty,.int .i64 0] 91)).drewN nq):=below_drewN ((Below.refl _ w3).alloc (Nat.le_refl _) _) nq
    have hg4:((w3.alloc (.cells #[.slice Az 0 cz,.int .i64 0,.int .i64 0,.string ByteArray.empty,.int .i64 0] 91)).drewN nq).heap[w3.heap.size]?=some (.cells #[.slice Az 0 cz,.int .i64 0,.int .i64 0,.string ByteArray.empty,.int .i64 0] 91):=by rw[World.heap_drewN];exact Qd rfl
    generalize ((w3.alloc (.cells #[.slice Az 0 cz,.int .i64 0,.int .i64 0,.string ByteArray.empty,.int .i64 0] 91)).drewN nq)=w4 at *
    have hb4':Below w2.heap.size w2 w4:=hb3'.trans (hb4.mono (by omega))
    have hown4:=hown3.grow LfA.mon hb4
    have hs4:w3.heap.size<w4.heap.size:=lt_of_block hg4
    have b0:=Qa (i:=0) hg4
    have b1:=Qa (i:=1) hg4
    have b2:=Qa (i:=2) hg4
    have b3:=Qa (i:=3) hg4
    have b4:=Qa (i:=4) hg4
    simp only[List.getElem?_toArray,List.getElem?_cons_zero,List.getElem?_cons_succ]at b0 b1 b2 b3 b4
    clear hown3 f0 f1 f2 f3 f4 e0 e1 e2 e3 e4 hg4 hbp3 hbn3
    obtain⟨⟨f0,f1,f2,f3,f4⟩,hp4,q8,hB4⟩:=HE.out w4 hb4'
    have hbp4:bp<w4.heap.size:=by omega
    have hbn4:bp≠w4.heap.size:=by omega
    cases hh:hasC cb x.dot
    ·have HH:=hid hh
     have HOY:Hid (outP Q cb (p,x)=[(p,x)]):=by unfold Hid outP;rw[HF.out];simp[hh]
     clear hh
     go_upto_region 9 with (fail)
     have f7:w4.cell? ⟨bp,op+k*5+1+1,none⟩=some (.int .i64 x.n):=f2
     go_region_held3 (fun W=>W.cell? ⟨w.heap.size+1,2,none⟩=some (.slice A6 cb.length n6)/\W.cell? ⟨bp,op+k*5+1,none⟩=some (.int .i64 x.dc)/\W.cell? ⟨bp,op+k*5+1+1,none⟩=some (.int .i64 x.n))
      (go_keep)
      (first|(go_at_call 60;go_loud ((refine (ZG cb x.dot _ _ (HCB.out _ (HE.out _ (hb4'.drew)).2.2.2) (by omega)).mono ?_);rw[HH.out];rintro e w6 ⟨rfl,hb6⟩;have hbW:Below w4.heap.size w4 w6:=(Below.refl _ w4).drew.trans (hb6.mono (by simp));have HBW:=hid hbW;obtain⟨⟨f0,f1,f2,f3,f4⟩,hpW,q9,hB6⟩:=HE.out w6 (hb4'.trans (hbW.mono (by omega)));have f7:w6.cell? ⟨bp,op+k*5+1+1,none⟩=some (.int .i64 x.n):=f2;have hs6:=hbW.size;have hbp6:bp<w6.heap.size:=(by omega);have hbn6:bp≠w6.heap.size:=(by omega))))
     have hzW:=HOK.out
     go_wp2_with (at_builtin;go_loud ((refine Za (v:=u7) rfl (.tmp 88) (.tmp 93) _ rfl LfA.mon Yz (by decide) (by decide) rfl ((hown4.grow LfA.mon hbW).grow LfA.mon ((Below.refl _ w6).alloc (Nat.le_refl _) (.cells #[.slice A7 (p).length c7,.int .i64 (x).dc,.int .i64 (x).n,.string (x).s,.int .i64 (x).v] 91))) rfl (KB (z:=(p,x)) _ hpW hzW (fun g h=>(hov g h).1) (by omega)) (HL.out (p,x)) (by simp;omega) ?_);intro v1 w7 hown7 hb7 _ _))
     go_roundw
     case rel=>exact⟨k+1,by omega,by go_num,by rw[HTK.out,HOY.out];exact hown7,((hb4'.trans (hbW.mono (by omega))).alloc (by omega) _).trans hb7⟩
     case measure=>simp[intOf];omega
    ·have HH:=hid hh
     have HOY:Hid (outP Q cb (p,x)=[]):=by unfold Hid outP;rw[HF.out];simp[hh]
     clear hh
     go_upto_region 9 with (fail)
     have f7:w4.cell? ⟨bp,op+k*5+1+1,none⟩=some (.int .i64 x.n):=f2
     go_region_held3 (fun W=>W.cell? ⟨w.heap.size+1,2,none⟩=some (.slice A6 cb.length n6)/\W.cell? ⟨bp,op+k*5+1,none⟩=some (.int .i64 x.dc)/\W.cell? ⟨bp,op+k*5+1+1,none⟩=some (.int .i64 x.n))
      (go_keep)
      (first|(go_at_call 60;go_loud ((refine (ZG cb x.dot _ _ (HCB.out _ (HE.out _ (hb4'.drew)).2.2.2) (by omega)).mono ?_);rw[HH.out];rintro e w6 ⟨rfl,hb6⟩;have hbW:Below w4.heap.size w4 w6:=(Below.refl _ w4).drew.trans (hb6.mono (by simp));have HBW:=hid hbW;obtain⟨⟨f0,f1,f2,f3,f4⟩,hpW,q9,hB6⟩:=HE.out w6 (hb4'.trans (hbW.mono (by omega)));have f7:w6.cell? ⟨bp,op+k*5+1+1,none⟩=some (.int .i64 x.n):=f2;have hs6:=hbW.size;have hbp6:bp<w6.heap.size:=(by omega);have hbn6:bp≠w6.heap.size:=(by omega))))
     go_wp2_with fail
     go_roundw
     case rel=>exact⟨k+1,by omega,by go_num,by rw[HTK.out,HOY.out,List.append_nil];exact hown4.grow LfA.mon hbW,hb4'.trans (hbW.mono (by omega))⟩
     case measure=>simp[intOf];omega
   |some y=>
    obtain⟨pz,z⟩:=y
    have hfz:fndZ Q (p,x)=(pz,z):=by unfold fndZ;rw[hf];rfl
    rw[hfz]
    rintro e w3 ⟨Az,cz,rfl,hz,hzok,hb3⟩
    have HF:=hid hf
    clear hfz hf
    simp only[Option.isSome_some]at hz hzok ⊢
    have hb3':Below w2.heap.size w2 w3:=hb.trans (hb3.mono hsz)
    have hs3:=hb3.size
    obtain⟨⟨f0,f1,f2,f3,f4⟩,hp3,q6,hB3⟩:=HE.out w3 hb3'
    have hown3:=hown.grow LfA.mon hb3
    have hbp3:bp<w3.heap.size:=by omega
    have hbn3:bp≠w3.heap.size:=by omega
    have f5:w3.cell? ⟨bp,op+k*5+1+3,none⟩=some (.int .i64 x.v):=f4
    have f6:w3.cell? ⟨bp,op+k*5+1+2,none⟩=some (.string x.s):=f3
    have HZ:=hid hz
    have HZO:=hid hzok
    clear hz hzok
    cases hg1:decide (x.v<z.v)
    ·cases hg2:decide (z.v=x.v)
     ·have hg3:(z.v==x.v)=false:=by simpa using hg2
      have HOY:Hid (outP Q cb (p,x)=[(p,x)]):=by unfold Hid outP;rw[HF.out];simp[gtE,hg1,hg2]
      go_wp2_with fail
      go_quiet (fail)
      clear hg1 hg2 hg3
      have hb4:Below w3.heap.size w3 ((w3.alloc (.cells #[.slice Az pz.length cz,.int .i64 z.dc,.int .i64 z.n,.string z.s,.int .i64 z.v] 91)).drewN nq):=below_drewN ((Below.refl _ w3).alloc (Nat.le_refl _) _) nq
      have hg4:((w3.alloc (.cells #[.slice Az pz.length cz,.int .i64 z.dc,.int .i64 z.n,.string z.s,.int .i64 z.v] 91)).drewN nq).heap[w3.heap.size]?=some (.cells #[.slice Az pz.length cz,.int .i64 z.dc,.int .i64 z.n,.string z.s,.int .i64 z.v] 91):=by rw[World.heap_drewN];exact Qd rfl
      generalize ((w3.alloc (.cells #[.slice Az pz.length cz,.int .i64 z.dc,.int .i64 z.n,.string z.s,.int .i64 z.v] 91)).drewN nq)=w4 at *
      have hb4':Below w2.heap.size w2 w4:=hb3'.trans (hb4.mono (by omega))
      have hown4:=hown3.grow LfA.mon hb4
      have hs4:w3.heap.size<w4.heap.size:=lt_of_block hg4
      have b0:=Qa (i:=0) hg4
      have b1:=Qa (i:=1) hg4
      have b2:=Qa (i:=2) hg4
      have b3:=Qa (i:=3) hg4
      have b4:=Qa (i:=4) hg4
      simp only[List.getElem?_toArray,List.getElem?_cons_zero,List.getElem?_cons_succ]at b0 b1 b2 b3 b4
      clear hown3 f0 f1 f2 f3 f4 e0 e1 e2 e3 e4 hg4 hbp3 hbn3
      obtain⟨⟨f0,f1,f2,f3,f4⟩,hp4,q8,hB4⟩:=HE.out w4 hb4'
      have hbp4:bp<w4.heap.size:=by omega
      have hbn4:bp≠w4.heap.size:=by omega
      go_wp2_with fail
      go_quiet (fail)
      have hbW:Below w4.heap.size w4 (w4.drewN nq):=below_drewN (Below.refl _ _) nq
      generalize w4.drewN nq=w6 at *
      have hs6:=hbW.size
      have hb6':Below w2.heap.size w2 w6:=hb4'.trans (hbW.mono (by omega))
      clear f0 f1 f2 f3 f4
      obtain⟨⟨f0,f1,f2,f3,f4⟩,hpW,q9,hB6⟩:=HE.out w6 hb6'
      have hbp6:bp<w6.heap.size:=by omega
      have hbn6:bp≠w6.heap.size:=by omega
      have hzW:=HOK.out
      go_wp2_with (at_builtin;go_loud ((refine Za (v:=u7) rfl (.tmp 88) (.tmp 93) _ rfl LfA.mon Yz (by decide) (by decide) rfl ((hown4.grow LfA.mon hbW).grow LfA.mon ((Below.refl _ w6).alloc (Nat.le_refl _) (.cells #[.slice A7 (p).length c7,.int .i64 (x).dc,.int .i64 (x).n,.string (x).s,.int .i64 (x).v] 91))) rfl (KB (z:=(p,x)) _ hpW hzW (fun g h=>(hov g h).1) (by omega)) (HL.out (p,x)) (by simp;omega) ?_);intro v1 w7 hown7 hb7 _ _))
      go_roundw
      case rel=>exact⟨k+1,by omega,by go_num,by rw[HTK.out,HOY.out];exact hown7,((hb4'.trans (hbW.mono (by omega))).alloc (by omega) _).trans hb7⟩
      case measure=>simp[intOf];omega
     ·have hg3:(z.v==x.v)=true:=by simpa using hg2
      have hlt2:=qKv x.s z.s
      cases hg4:Op.bytesLess z.s.toList x.s.toList
      ·cases hg5:(z.s.toList==x.s.toList)
       ·have HOY:Hid (outP Q cb (p,x)=[(pz,z)]):=by unfold Hid outP;rw[HF.out];simp[gtE,hg1,hg2,hlt2,hg4,hg5]
        go_wp2_with fail
        go_quiet (fail)
        clear hg1 hg2 hg3 hg4 hg5 hlt2
        have hb4:Below w3.heap.size w3 ((w3.alloc (.cells #[.slice Az pz.length cz,.int .i64 z.dc,.int .i64 z.n,.string z.s,.int .i64 z.v] 91)).drewN nq):=below_drewN ((Below.refl _ w3).alloc (Nat.le_refl _) _) nq
        have hg4:((w3.alloc (.cells #[.slice Az pz.length cz,.int .i64 z.dc,.int .i64 z.n,.string z.s,.int .i64 z.v] 91)).drewN nq).heap[w3.heap.size]?=some (.cells #[.slice Az pz.length cz,.int .i64 z.dc,.int .i64 z.n,.string z.s,.int .i64 z.v] 91):=by rw[World.heap_drewN];exact Qd rfl
        generalize ((w3.alloc (.cells #[.slice Az pz.length cz,.int .i64 z.dc,.int .i64 z.n,.string z.s,.int .i64 z.v] 91)).drewN nq)=w4 at *
        have hb4':Below w2.heap.size w2 w4:=hb3'.trans (hb4.mono (by omega))
        have hown4:=hown3.grow LfA.mon hb4
        have hs4:w3.heap.size<w4.heap.size:=lt_of_block hg4
        have b0:=Qa (i:=0) hg4
        have b1:=Qa (i:=1) hg4
        have b2:=Qa (i:=2) hg4
        have b3:=Qa (i:=3) hg4
        have b4:=Qa (i:=4) hg4
        simp only[List.getElem?_toArray,List.getElem?_cons_zero,List.getElem?_cons_succ]at b0 b1 b2 b3 b4
        clear hown3 f0 f1 f2 f3 f4 e0 e1 e2 e3 e4 hg4 hbp3 hbn3
        obtain⟨⟨f0,f1,f2,f3,f4⟩,hp4,q8,hB4⟩:=HE.out w4 hb4'
        have hbp4:bp<w4.heap.size:=by omega
        have hbn4:bp≠w4.heap.size:=by omega
        have hbW:Below w4.heap.size w4 w4:=Below.refl _ _
        have hpW:SlA w4 (fun b=>b<w2.heap.size) 1 StE (.slice Az pz.length cz) pz:=HZ.out.up (fun b hb=>(hb4.block b (by omega)).trans (hb3.block b (by omega))) (fun _ h=>h) (fun _ _ _ h=>h)
        have hzW:=HZO.out
        go_wp2_with (at_builtin;go_loud ((refine Za (v:=u7) rfl (.tmp 71) (.tmp 73) _ rfl LfA.mon Yz (by decide) (by decide) rfl ((hown4.grow LfA.mon hbW).grow LfA.mon ((Below.refl _ w4).alloc (Nat.le_refl _) (.cells #[.slice Az (pz).length cz,.int .i64 (z).dc,.int .i64 (z).n,.string (z).s,.int .i64 (z).v] 91))) rfl (KB (z:=(pz,z)) _ hpW hzW (fun g h=>(hov g h).1) (by omega)) (HL.out (pz,z)) (by simp;omega) ?_);intro v1 w7 hown7 hb7 _ _))
        go_roundw
        case rel=>exact⟨k+1,by omega,by go_num,by rw[HTK.out,HOY.out];exact hown7,((hb4'.trans (hbW.mono (by omega))).alloc (by omega) _).trans hb7⟩
        case measure=>simp[intOf];omega
       ·have HOY:Hid (outP Q cb (p,x)=[(p,x)]):=by unfold Hid outP;rw[HF.out];simp[gtE,hg1,hg2,hlt2,hg4,hg5]
        go_wp2_with fail
        go_quiet (fail)
        clear hg1 hg2 hg3 hg4 hg5 hlt2
        have hb4:Below w3.heap.size w3 ((w3.alloc (.cells #[.slice Az pz.length cz,.int .i64 z.dc,.int .i64 z.n,.string z.s,.int .i64 z.v] 91)).drewN nq):=below_drewN ((Below.refl _ w3).alloc (Nat.le_refl _) _) nq
        have hg4:((w3.alloc (.cells #[.slice Az pz.length cz,.int .i64 z.dc,.int .i64 z.n,.string z.s,.int .i64 z.v] 91)).drewN nq).heap[w3.heap.size]?=some (.cells #[.slice Az pz.length cz,.int .i64 z.dc,.int .i64 z.n,.string z.s,.int .i64 z.v] 91):=by rw[World.heap_drewN];exact Qd rfl
        generalize ((w3.alloc (.cells #[.slice Az pz.length cz,.int .i64 z.dc,.int .i64 z.n,.string z.s,.int .i64 z.v] 91)).drewN nq)=w4 at *
        have hb4':Below w2.heap.size w2 w4:=hb3'.trans (hb4.mono (by omega))
        have hown4:=hown3.grow LfA.mon hb4
        have hs4:w3.heap.size<w4.heap.size:=lt_of_block hg4
        have b0:=Qa (i:=0) hg4
        have b1:=Qa (i:=1) hg4
        have b2:=Qa (i:=2) hg4
        have b3:=Qa (i:=3) hg4
        have b4:=Qa (i:=4) hg4
        simp only[List.getElem?_toArray,List.getElem?_cons_zero,List.getElem?_cons_succ]at b0 b1 b2 b3 b4
        clear hown3 f0 f1 f2 f3 f4 e0 e1 e2 e3 e4 hg4 hbp3 hbn3
        obtain⟨⟨f0,f1,f2,f3,f4⟩,hp4,q8,hB4⟩:=HE.out w4 hb4'
        have hbp4:bp<w4.heap.size:=by omega
        have hbn4:bp≠w4.heap.size:=by omega
        go_wp2_with fail
        go_quiet (fail)
        have hbW:Below w4.heap.size w4 (w4.drewN nq):=below_drewN (Below.refl _ _) nq
        generalize w4.drewN nq=w6 at *
        have hs6:=hbW.size
        have hb6':Below w2.heap.size w2 w6:=hb4'.trans (hbW.mono (by omega))
        clear f0 f1 f2 f3 f4
        obtain⟨⟨f0,f1,f2,f3,f4⟩,hpW,q9,hB6⟩:=HE.out w6 hb6'
        have hbp6:bp<w6.heap.size:=by omega
        have hbn6:bp≠w6.heap.size:=by omega
        have hzW:=HOK.out
        go_wp2_with (at_builtin;go_loud ((refine Za (v:=u7) rfl (.tmp 88) (.tmp 93) _ rfl LfA.mon Yz (by decide) (by decide) rfl ((hown4.grow LfA.mon hbW).grow LfA.mon ((Below.refl _ w6).alloc (Nat.le_refl _) (.cells #[.slice A7 (p).length c7,.int .i64 (x).dc,.int .i64 (x).n,.string (x).s,.int .i64 (x).v] 91))) rfl (KB (z:=(p,x)) _ hpW hzW (fun g h=>(hov g h).1) (by omega)) (HL.out (p,x)) (by simp;omega) ?_);intro v1 w7 hown7 hb7 _ _))
        go_roundw
        case rel=>exact⟨k+1,by omega,by go_num,by rw[HTK.out,HOY.out];exact hown7,((hb4'.trans (hbW.mono (by omega))).alloc (by omega) _).trans hb7⟩
        case measure=>simp[intOf];omega
      ·have HOY:Hid (outP Q cb (p,x)=[(p,x)]):=by unfold Hid outP;rw[HF.out];simp[gtE,hg1,hg2,hlt2,hg4]
       go_wp2_with fail
       go_quiet (fail)
       clear hg1 hg2 hg3 hg4 hlt2
       have hb4:Below w3.heap.size w3 ((w3.alloc (.cells #[.slice Az pz.length cz,.int .i64 z.dc,.int .i64 z.n,.string z.s,.int .i64 z.v] 91)).drewN nq):=below_drewN ((Below.refl _ w3).alloc (Nat.le_refl _) _) nq
       have hg4:((w3.alloc (.cells #[.slice Az pz.length cz,.int .i64 z.dc,.int .i64 z.n,.string z.s,.int .i64 z.v] 91)).drewN nq).heap[w3.heap.size]?=some (.cells #[.slice Az pz.length cz,.int .i64 z.dc,.int .i64 z.n,.string z.s,.int .i64 z.v] 91):=by rw[World.heap_drewN];exact Qd rfl
       generalize ((w3.alloc (.cells #[.slice Az pz.length cz,.int .i64 z.dc,.int .i64 z.n,.string z.s,.int .i64 z.v] 91)).drewN nq)=w4 at *
       have hb4':Below w2.heap.size w2 w4:=hb3'.trans (hb4.mono (by omega))
       have hown4:=hown3.grow LfA.mon hb4
       have hs4:w3.heap.size<w4.heap.size:=lt_of_block hg4
       have b0:=Qa (i:=0) hg4
       have b1:=Qa (i:=1) hg4
       have b2:=Qa (i:=2) hg4
       have b3:=Qa (i:=3) hg4
       have b4:=Qa (i:=4) hg4
       simp only[List.getElem?_toArray,List.getElem?_cons_zero,List.getElem?_cons_succ]at b0 b1 b2 b3 b4
       clear hown3 f0 f1 f2 f3 f4 e0 e1 e2 e3 e4 hg4 hbp3 hbn3
       obtain⟨⟨f0,f1,f2,f3,f4⟩,hp4,q8,hB4⟩:=HE.out w4 hb4'
       have hbp4:bp<w4.heap.size:=by omega
       have hbn4:bp≠w4.heap.size:=by omega
       go_wp2_with fail
       go_quiet (fail)
       have hbW:Below w4.heap.size w4 (w4.drewN nq):=below_drewN (Below.refl _ _) nq
       generalize w4.drewN nq=w6 at *
       have hs6:=hbW.size
       have hb6':Below w2.heap.size w2 w6:=hb4'.trans (hbW.mono (by omega))
       clear f0 f1 f2 f3 f4
       obtain⟨⟨f0,f1,f2,f3,f4⟩,hpW,q9,hB6⟩:=HE.out w6 hb6'
       have hbp6:bp<w6.heap.size:=by omega
       have hbn6:bp≠w6.heap.size:=by omega
       have hzW:=HOK.out
       go_wp2_with (at_builtin;go_loud ((refine Za (v:=u7) rfl (.tmp 88) (.tmp 93) _ rfl LfA.mon Yz (by decide) (by decide) rfl ((hown4.grow LfA.mon hbW).grow LfA.mon ((Below.refl _ w6).alloc (Nat.le_refl _) (.cells #[.slice A7 (p).length c7,.int .i64 (x).dc,.int .i64 (x).n,.string (x).s,.int .i64 (x).v] 91))) rfl (KB (z:=(p,x)) _ hpW hzW (fun g h=>(hov g h).1) (by omega)) (HL.out (p,x)) (by simp;omega) ?_);intro v1 w7 hown7 hb7 _ _))
       go_roundw
       case rel=>exact⟨k+1,by omega,by go_num,by rw[HTK.out,HOY.out];exact hown7,((hb4'.trans (hbW.mono (by omega))).alloc (by omega) _).trans hb7⟩
       case measure=>simp[intOf];omega
    ·have HOY:Hid (outP Q cb (p,x)=[(pz,z)]):=by unfold Hid outP;rw[HF.out];simp[gtE,hg1]
     go_wp2_with fail
     go_quiet (fail)
     clear hg1
     have hb4:Below w3.heap.size w3 ((w3.alloc (.cells #[.slice Az pz.length cz,.int .i64 z.dc,.int .i64 z.n,.string z.s,.int .i64 z.v] 91)).drewN nq):=below_drewN ((Below.refl _ w3).alloc (Nat.le_refl _) _) nq
     have hg4:((w3.alloc (.cells #[.slice Az pz.length cz,.int .i64 z.dc,.int .i64 z.n,.string z.s,.int .i64 z.v] 91)).drewN nq).heap[w3.heap.size]?=some (.cells #[.slice Az pz.length cz,.int .i64 z.dc,.int .i64 z.n,.string z.s,.int .i64 z.v] 91):=by rw[World.heap_drewN];exact Qd rfl
     generalize ((w3.alloc (.cells #[.slice Az pz.length cz,.int .i64 z.dc,.int .i64 z.n,.string z.s,.int .i64 z.v] 91)).drewN nq)=w4 at *
     have hb4':Below w2.heap.size w2 w4:=hb3'.trans (hb4.mono (by omega))
     have hown4:=hown3.grow LfA.mon hb4
     have hs4:w3.heap.size<w4.heap.size:=lt_of_block hg4
     have b0:=Qa (i:=0) hg4
     have b1:=Qa (i:=1) hg4
     have b2:=Qa (i:=2) hg4
     have b3:=Qa (i:=3) hg4
     have b4:=Qa (i:=4) hg4
     simp only[List.getElem?_toArray,List.getElem?_cons_zero,List.getElem?_cons_succ]at b0 b1 b2 b3 b4
     clear hown3 f0 f1 f2 f3 f4 e0 e1 e2 e3 e4 hg4 hbp3 hbn3
     obtain⟨⟨f0,f1,f2,f3,f4⟩,hp4,q8,hB4⟩:=HE.out w4 hb4'
     have hbp4:bp<w4.heap.size:=by omega
     have hbn4:bp≠w4.heap.size:=by omega
     have hbW:Below w4.heap.size w4 w4:=Below.refl _ _
     have hpW:SlA w4 (fun b=>b<w2.heap.size) 1 StE (.slice Az pz.length cz) pz:=HZ.out.up (fun b hb=>(hb4.block b (by omega)).trans (hb3.block b (by omega))) (fun _ h=>h) (fun _ _ _ h=>h)
     have hzW:=HZO.out
     go_wp2_with (at_builtin;go_loud ((refine Za (v:=u7) rfl (.tmp 71) (.tmp 73) _ rfl LfA.mon Yz (by decide) (by decide) rfl ((hown4.grow LfA.mon hbW).grow LfA.mon ((Below.refl _ w4).alloc (Nat.le_refl _) (.cells #[.slice Az (pz).length cz,.int .i64 (z).dc,.int .i64 (z).n,.string (z).s,.int .i64 (z).v] 91))) rfl (KB (z:=(pz,z)) _ hpW hzW (fun g h=>(hov g h).1) (by omega)) (HL.out (pz,z)) (by simp;omega) ?_);intro v1 w7 hown7 hb7 _ _))
     go_roundw
     case rel=>exact⟨k+1,by omega,by go_num,by rw[HTK.out,HOY.out];exact hown7,((hb4'.trans (hbW.mono (by omega))).alloc (by omega) _).trans hb7⟩
     case measure=>simp[intOf];omega
  ·obtain rfl:k=P.length:=by omega
   rw[List.take_of_length_le (Nat.le_refl _)]at hown
   have hownP:=hid hown
   have hbP:=hid hb
   have hpl:=YQ (outP Q cb) (qYh Q cb) P
   clear hown
   go_wp2_with fail
   clear hk hlt
   obtain⟨wo,hwo⟩:∃ z:World,z=wr:=⟨_,rfl⟩
   subst hwo
   go_loopw [7,98] (fun v i wr=>∃ k:Nat,k<=Q.length/\i=.int .i64 k/\OwnD wr w2.heap.size 91 5 LfA (fun b=>b<w2.heap.size) v (P.flatMap (outP Q cb)++(Q.take k).flatMap (outQ P ca))/\Below w2.heap.size w2 wr) (fun _ i _=>Q.length-(intOf i).toNat)
   case atStart=>exact⟨0,Nat.zero_le _,rfl,by simpa using hownP.out,hbP.out⟩
   case round=>
    obtain⟨k,hk,rfl,hown,hb⟩:=hrel
    have hsz:=hb.size
    by_cases hlt:k<Q.length
    ·obtain⟨⟨p,x⟩,hx⟩:∃ x,Q[k]?=some x:=⟨_,List.getElem?_eq_getElem hlt⟩
     obtain⟨A,m,hv,c1,c2,c3⟩:=id HQ.out
     cases hv
     obtain⟨bp,op,rfl,hbB,hc⟩:=c3 (by rintro rfl;simp at hlt)
     obtain⟨cs,⟨A7,c7,rfl,hp,hok⟩,_,hu⟩:=hc k _ hx
     have HE:Hid (∀ W,Below w2.heap.size w2 W->(W.cell? ⟨bp,op+k*5,none⟩=some (.slice A7 p.length c7)/\W.cell? ⟨bp,op+k*5+1,none⟩=some (.int .i64 x.dc)/\W.cell? ⟨bp,op+k*5+2,none⟩=some (.int .i64 x.n)/\W.cell? ⟨bp,op+k*5+3,none⟩=some (.string x.s)/\W.cell? ⟨bp,op+k*5+4,none⟩=some (.int .i64 x.v))/\SlA W (fun b=>b<w2.heap.size) 1 StE (.slice A7 p.length c7) p/\W.cell? ⟨w.heap.size,2,none⟩=some (.slice A5 ca.length n5)/\Below w.heap.size w W):=fun W hW=>
      ⟨⟨(hW.cell hbB).trans (hu 0 _ rfl),(hW.cell hbB).trans (hu 1 _ rfl),(hW.cell hbB).trans (hu 2 _ rfl),(hW.cell hbB).trans (hu 3 _ rfl),(hW.cell hbB).trans (hu 4 _ rfl)⟩,hp.up (fun b hb=>hW.block b hb) (fun _ h=>h) (fun _ _ _ h=>h),(HX.out W (hbk2.out.trans (hW.mono hs2))).2.2.2.2.2.1,(HX.out W (hbk2.out.trans (hW.mono hs2))).1⟩
     obtain⟨⟨e0,e1,e2,e3,e4⟩,hp',q5,hB⟩:=HE.out wr hb
     have HOK:=hid hok
     have HTK:=hid (qQ6 hx (outQ P ca))
     have hle:=YQ (outQ P ca) (qYi P ca) (Q.take k)
     rw[List.length_take]at hle
     have HL:Hid (∀ z:Lf,(P.flatMap (outP Q cb)++(Q.take k).flatMap (outQ P ca)).length + [z].length<=Few):=fun z=>by unfold Few;rw[List.length_singleton,List.length_append];omega
     have HJS:Hid (∀ l:List Lf,P.flatMap (outP Q cb)++((Q.take k).flatMap (outQ P ca)++l)=(P.flatMap (outP Q cb)++(Q.take k).flatMap (outQ P ca))++l):=fun l=>(List.append_assoc _ _ _).symm
     generalize P.flatMap (outP Q cb)++(Q.take k).flatMap (outQ P ca)=js at *
     have hov:=hown.lt
     clear hu hc c3 hx hok hp
     go_wp2_with fail
     refine (qJa (fun b=>b<w2.heap.size) P (p,x) _ A7 c7 wr (fun b hb=>Nat.lt_of_lt_of_le hb hsz) (slLf HP.out hb (fun _ h=>h) fun _ h=>h) (hp'.up (fun _ _=>rfl) (fun b hb=>Nat.lt_of_lt_of_le hb hsz) fun _ _ _ h=>h)).mono ?_
     rintro e w3 ⟨Az,cz,rfl,hz,hzok,hb3⟩
     obtain⟨pz,z⟩:=fndZ P (p,x)
     simp only at hz hzok ⊢
     clear hz hzok
     have hb3':Below w2.heap.size w2 w3:=hb.trans (hb3.mono hsz)
     have hs3:=hb3.size
     obtain⟨⟨f0,f1,f2,f3,f4⟩,hp3,q6,hB3⟩:=HE.out w3 hb3'
     have hown3:=hown.grow LfA.mon hb3
     have hbp3:bp<w3.heap.size:=by omega
     have hbn3:bp≠w3.heap.size:=by omega
     have hq2:w.heap.size<w3.heap.size:=by have:=hB3.size;have:=(HX.out _ hbk2.out).2.2.1;omega
     have hq2':w.heap.size≠w3.heap.size:=by omega
     cases hf:findL P (p,x) with
     |none=>
      have HF:=hid hf
      clear hf
      simp only[Option.isSome_none]
      go_upto_region 16 with (fail)
      have hb4:Below w3.heap.size w3 (w3.alloc (.cells #[.slice Az pz.length cz,.int .i64 z.dc,.int .i64 z.n,.string z.s,.int .i64 z.v] 91)):=(Below.refl _ w3).alloc (Nat.le_refl _) _
      have hb4s:w3.heap.size<(w3.alloc (.cells #[.slice Az pz.length cz,.int .i64 z.dc,.int .i64 z.n,.string z.s,.int .i64 z.v] 91)).heap.size:=by simp
      generalize (w3.alloc (.cells #[.slice Az pz.length cz,.int .i64 z.dc,.int .i64 z.n,.string z.s,.int .i64 z.v] 91))=w4 at *
      have hb4':Below w2.heap.size w2 w4:=hb3'.trans (hb4.mono (by omega))
      have hown4:=hown3.grow LfA.mon hb4
      have hs4:w3.heap.size<w4.heap.size:=hb4s
      clear hown3 f0 f1 f2 f3 f4 e0 e1 e2 e3 e4 hbp3 hbn3
      obtain⟨⟨f0,f1,f2,f3,f4⟩,hp4,q8,hB4⟩:=HE.out w4 hb4'
      have hbp4:bp<w4.heap.size:=by omega
      have hbn4:bp≠w4.heap.size:=by omega
      cases hh:hasC ca x.dot
      ·have HH:=hid hh
       have HOY:Hid (outQ P ca (p,x)=[(p,x)]):=by unfold Hid outQ;rw[HF.out];simp[hh]
       clear hh
       have f7:w4.cell? ⟨bp,op+k*5+1+1,none⟩=some (.int .i64 x.n):=f2
       go_region_held3 (fun W=>W.cell? ⟨w.heap.size,2,none⟩=some (.slice A5 ca.length n5)/\W.cell? ⟨bp,op+k*5+1,none⟩=some (.int .i64 x.dc)/\W.cell? ⟨bp,op+k*5+1+1,none⟩=some (.int .i64 x.n))
        (go_keep)
        (first|(go_at_call 60;go_loud ((refine (ZG ca x.dot _ _ (HCA.out _ (HE.out _ (hb4'.drew)).2.2.2) (by omega)).mono ?_);rw[HH.out];rintro e w6 ⟨rfl,hb6⟩;have hbW:Below w4.heap.size w4 w6:=(Below.refl _ w4).drew.trans (hb6.mono (by simp));have HBW:=hid hbW;obtain⟨⟨f0,f1,f2,f3,f4⟩,hpW,q9,hB6⟩:=HE.out w6 (hb4'.trans (hbW.mono (by omega)));have f7:w6.cell? ⟨bp,op+k*5+1+1,none⟩=some (.int .i64 x.n):=f2;have hs6:=hbW.size;have hbp6:bp<w6.heap.size:=(by omega);have hbn6:bp≠w6.heap.size:=(by omega))))
       have hzW:=HOK.out
       go_wp2_with (at_builtin;go_loud ((refine Za (v:=u7) rfl (.tmp 124) (.tmp 129) _ rfl LfA.mon Yz (by decide) (by decide) rfl ((hown4.grow LfA.mon hbW).grow LfA.mon ((Below.refl _ w6).alloc (Nat.le_refl _) (.cells #[.slice A7 (p).length c7,.int .i64 (x).dc,.int .i64 (x).n,.string (x).s,.int .i64 (x).v] 91))) rfl (KB (z:=(p,x)) _ hpW hzW (fun g h=>(hov g h).1) (by omega)) (HL.out (p,x)) (by simp;omega) ?_);intro v1 w7 hown7 hb7 _ _))
       go_roundw
       case rel=>exact⟨k+1,by omega,by go_num,by rw[HTK.out,HOY.out,HJS.out];exact hown7,((hb4'.trans (hbW.mono (by omega))).alloc (by omega) _).trans hb7⟩
       case measure=>simp[intOf];omega
      ·have HH:=hid hh
       have HOY:Hid (outQ P ca (p,x)=[]):=by unfold Hid outQ;rw[HF.out];simp[hh]
       clear hh
       have f7:w4.cell? ⟨bp,op+k*5+1+1,none⟩=some (.int .i64 x.n):=f2
       go_region_held3 (fun W=>W.cell? ⟨w.heap.size,2,none⟩=some (.slice A5 ca.length n5)/\W.cell? ⟨bp,op+k*5+1,none⟩=some (.int .i64 x.dc)/\W.cell? ⟨bp,op+k*5+1+1,none⟩=some (.int .i64 x.n))
        (go_keep)
        (first|(go_at_call 60;go_loud ((refine (ZG ca x.dot _ _ (HCA.out _ (HE.out _ (hb4'.drew)).2.2.2) (by omega)).mono ?_);rw[HH.out];rintro e w6 ⟨rfl,hb6⟩;have hbW:Below w4.heap.size w4 w6:=(Below.refl _ w4).drew.trans (hb6.mono (by simp));have HBW:=hid hbW;obtain⟨⟨f0,f1,f2,f3,f4⟩,hpW,q9,hB6⟩:=HE.out w6 (hb4'.trans (hbW.mono (by omega)));have f7:w6.cell? ⟨bp,op+k*5+1+1,none⟩=some (.int .i64 x.n):=f2;have hs6:=hbW.size;have hbp6:bp<w6.heap.size:=(by omega);have hbn6:bp≠w6.heap.size:=(by omega))))
       go_wp2_with fail
       go_roundw
       case rel=>exact⟨k+1,by omega,by go_num,by rw[HTK.out,HOY.out,HJS.out,List.append_nil];exact hown4.grow LfA.mon hbW,hb4'.trans (hbW.mono (by omega))⟩
       case measure=>simp[intOf];omega
     |some y=>
      have HOY:Hid (outQ P ca (p,x)=[]):=by unfold Hid outQ;rw[hf]
      clear hf
      simp only[Option.isSome_some]
      go_wp2_with fail
      go_quiet (fail)
      go_wp2_with fail
      go_roundw
      case rel=>exact⟨k+1,by omega,by go_num,by rw[HTK.out,HOY.out,HJS.out,List.append_nil];exact hown3.grow LfA.mon (below_drewN ((Below.refl _ w3).alloc (Nat.le_refl _) _) nq),hb3'.trans ((below_drewN ((Below.refl _ w3).alloc (Nat.le_refl _) _) nq).mono (by omega))⟩
      case measure=>simp[intOf];omega
    ·obtain rfl:k=Q.length:=by omega
     rw[List.take_of_length_le (Nat.le_refl _)]at hown
     rw[←HR9.out]at hown
     have hqq:=YQ (outQ P ca) (qYi P ca) Q
     have hln:(r9L P Q ca cb).length<=90000:=by rw[HR9.out,List.length_append];omega
     obtain⟨Ao,co,hvo⟩:=OwnP.shape hown
     subst hvo
     have HO:Hid (SlP wr wr.heap.size 5 (LfA wr (fun b=>b<wr.heap.size)) (.slice Ao (r9L P Q ca cb).length co) (r9L P Q ca cb)):=slLf (hown.sl LfA.mon (by unfold Big;omega)) (Below.refl _ _) (fun b hb=>hb.2) (fun b hb=>hb.2)
     have hbw:=hid (hbk2.out.trans (hb.mono hs2))
     have hsw:=(HX.out _ hbw.out).2.2.1
     obtain⟨q0,q1,q2,q3,q4,q5⟩:=(HX.out _ hbw.out).2.2.2
     have HLN:=hid hln
     clear hown hln hqq q0 q1 q3 q4
     go_upto_region 19 with (fail)
     go_region_held3 (fun w'=>w'.cell? ⟨w.heap.size,2,none⟩=some (.slice A5 ca.length n5)/\w'.cell? ⟨w.heap.size+1,2,none⟩=some (.slice A6 cb.length n6))
      (first|go_keep|(have hq:=(HX.out _ hbv.out).2.2.2;exact⟨hq.2.2.1,hq.2.2.2.2.2⟩)|(have hq:=(HX.out _ hbu.out).2.2.2;exact⟨hq.2.2.1,hq.2.2.2.2.2⟩)|fail)
      (first
          |(go_at_call 110;go_loud ((refine (YC ca cb _ _ wu (HCA.out _ (HX.out _ hbu.out).1) (HCB.out _ (HX.out _ hbu.out).1) (by omega) (by omega) HR1.out HR2.out).mono ?_);rintro e wv ⟨v2,rfl,ho2,hb2⟩;obtain⟨A8,c8,hv8⟩:=ho2.shape;subst hv8;have HO2:=hid ho2;have hbv:=hid (hbu.out.trans (hb2.mono (HX.out _ hbu.out).2.2.1));have HG2:=hid (HX.out _ hbv.out).2.1;have k0:wv.cell? ⟨w.heap.size+2,0,none⟩=some (.slice none 0 0):=Qa (i:=0) HG2.out;have k1:wv.cell? ⟨w.heap.size+2,1,none⟩=some (.slice none 0 0):=Qa (i:=1) HG2.out;have k2:wv.cell? ⟨w.heap.size+2,2,none⟩=some (.slice none 0 0):=Qa (i:=2) HG2.out;have z0:=Qb (i:=0) HG2.out;have z1:=Qb (i:=1) HG2.out;have z2:=Qb (i:=2) HG2.out;have HB2:=hid hb2;clear ho2 hb2))
          |(go_at_call 43;go_loud ((refine (Yq (r9L P Q ca cb) _ _ (slLf HO.out (Below.refl _ wr).drew (fun _ h=>h) (fun b h=>by simpa using h)) (by have:=HLN.out;omega)).mono ?_);rintro e wu ⟨ve1,vk1,rfl,hrd1,hb1⟩;obtain⟨Av,nv,Aw,nw,hv1,hv2⟩:=Ql hrd1;subst hv1;subst hv2;have HR:=hid hrd1;have hbu:=hid (hbw.out.trans (Below.trans ((Below.refl _ wr).drew) (hb1.mono (by simpa using hsw))));clear hrd1 hb1)))
     all_goals (
      go_wp2_with fail
      have hs3:w.heap.size+3<=wv.heap.size:=(HX.out _ hbv.out).2.2.1
      have hs4:w.heap.size+3<=wu.heap.size:=(HX.out _ hbu.out).2.2.1
      have hs12:=HB2.out.size
      obtain⟨r0,r1,r2,hK,hS⟩:=box3 HG2.out (.slice Av (QC (r9L P Q ca cb)).es.length nv) (.slice Aw (QC (r9L P Q ca cb)).ks.length nw) (.slice A8 (ctxBy ca cb 0).length c8)
      have hBW:Below w.heap.size w (((wv.setCell ⟨w.heap.size+2,0,none⟩ (.slice Av (QC (r9L P Q ca cb)).es.length nv)).setCell ⟨w.heap.size+2,1,none⟩ (.slice Aw (QC (r9L P Q ca cb)).ks.length nw)).setCell ⟨w.heap.size+2,2,none⟩ (.slice A8 (ctxBy ca cb 0).length c8)):=(((HX.out _ hbv.out).1.setCell (by simp) _).setCell (by simp) _).setCell (by simp) _
      clear k0 k1 k2 z0 z1 z2
      generalize (((wv.setCell ⟨w.heap.size+2,0,none⟩ (.slice Av (QC (r9L P Q ca cb)).es.length nv)).setCell ⟨w.heap.size+2,1,none⟩ (.slice Aw (QC (r9L P Q ca cb)).ks.length nw)).setCell ⟨w.heap.size+2,2,none⟩ (.slice A8 (ctxBy ca cb 0).length c8))=W at *
      refine bodyPost_ret (v:=.agg #[.slice Av (QC (r9L P Q ca cb)).es.length nv,.slice Aw (QC (r9L P Q ca cb)).ks.length nw,.slice A8 (ctxBy ca cb 0).length c8]) (by simp[results,Tryz.results63,go_sem,r0,r1,r2]) rfl ⟨_,_,_,rfl,?_,?_,hBW⟩
      ·exact Qs (fun b hb=>(hK b (by have:=hb.1;simp only[World.size_drew]at this;omega)).trans (HB2.out.block b hb.2)) (fun b hb=>⟨by have:=hb.1;simp only[World.size_drew]at this;omega,by have:=hb.2;omega⟩) _ _ _ HR.out
      ·exact (HO2.out.sla HUL.out).up (fun b hb=>hK b (by have:=hb.1;omega)) (fun b hb=>⟨by have:=hb.1;omega,by have:=hb.2.1;omega⟩) (fun _ _ _ h=>h))
theorem r9_jn {x y:Kn}(hx:KOk x)(hy:KOk y):QC (r9L (x.1.lvs []) (y.1.lvs []) x.2 y.2)=(jn x y).1:=qVy hx.ord hy.ord hx.ap hy.ap hx.dep hy.dep
theorem CaE.up {w w':World}{B B':Nat}{x:Kn}{cs:List Value}(h:CaE w B x cs)(hb:Below B w w')(hB:B<=B'):CaE w' B' x cs:=by
 obtain⟨ve,vk,vc,h1,h2,h3⟩:=h
 exact⟨ve,vk,vc,h1,Qi hb hB _ _ _ h2,h3.imp hb hB fun _ _ _ h=>h⟩
theorem CaE.one {w:World}{B:Nat}{x:Kn}{cs:List Value}(h:CaE w B x cs):∀ u∈cs,u.oneCell'=true:=by
 obtain⟨ve,vk,vc,rfl,h2,A,c,rfl,_⟩:=h
 obtain⟨A3,n3,A4,n4,rfl,rfl⟩:=Qj h2
 simp[Value.oneCell']
def CaW (w:World)(_:World)(_:Nat->Prop)(x:Kn)(cs:List Value):Prop:=CaE w w.heap.size x cs
theorem CaW.mon (w:World):Emon (CaW w) where
 up:=fun _ _ h=>h
 one:=fun h=>CaE.one h
def OpU (w:World)(ok:Nat->Prop)(o:Opr)(cs:List Value):Prop:=
 ∃ A c,cs=[.slice A o.path.length c,.int .i64 o.act,.string o.s,.int .i64 o.n]/\SlU w ok 1 StE (.slice A o.path.length c) o.path/\o.Ok
theorem OpU.mon:Emon OpU where
 up:=fun hk ho ⟨A,c,h1,h2,h3⟩=>⟨A,c,h1,h2.up hk ho fun _ _ _ h=>h,h3⟩
 one:=by rintro w ok x cs ⟨A,c,rfl,_⟩;simp[Value.oneCell']
theorem OpU.dn {w:World}{ok:Nat->Prop}{o:Opr}{cs:List Value}(h:OpU w ok o cs):OpA w ok o cs:=by
 obtain⟨A,c,h1,h2,h3⟩:=h
 exact⟨A,c,h1,h2.dn,h3⟩
theorem SlU.shape {α:Type}{w:World}{ok:Nat->Prop}{sz:Nat}{E:α->List Value->Prop}{v:Value}{xs:List α}(h:SlU w ok sz E v xs):∃ A c,v=.slice A xs.length c:=SlA.shape h
def CxS (w:World)(ok:Nat->Prop)(v:Value)(n:Nat):Prop:=∃ A c,v=.slice A n c/\n<=c/\n<=Big/\(n≠0->∃ b off,A=some ⟨b,off,none⟩/\ok b/\UFb w b/\Plain w b off (n*3))
theorem CxS.of {w:World}{ok:Nat->Prop}{v:Value}{c:List Sp}(h:SlU w ok 3 SpE v c):CxS w ok v c.length:=by
 obtain⟨A,n,rfl,a1,a2,a3⟩:=h
 refine⟨A,n,rfl,a1,a2,fun hn=>?_⟩
 obtain⟨b,off,rfl,hb,hc⟩:=a3 (by rintro rfl;simp at hn)
 refine⟨b,off,rfl,hb.1,hb.2,fun i hi=>?_⟩
 have hj:i / 3<c.length:=by omega
 obtain⟨cs,he,hl,hu⟩:=hc (i / 3) _ (List.getElem?_eq_getElem hj)
 have hm:i % 3<cs.length:=by rw[hl];omega
 have:=hu (i % 3) _ (List.getElem?_eq_getElem hm)
 refine⟨_,by rw[show off+i=off+i / 3*3+i % 3 by omega];exact this,?_⟩
 obtain⟨rfl,_⟩:=he
 have h3:i % 3=0∨i % 3=1∨i % 3=2:=by omega
 rcases h3 with h3|h3|h3<;>simp[h3,Zw]
theorem CxS.scr {base:Nat}{w w':World}(h:Scr base w w'){ok:Nat->Prop}(hk:∀ b,ok b->b<w.heap.size){v:Value}{n:Nat}(hc:CxS w ok v n):CxS w' ok v n:=by
 obtain⟨A,c,rfl,a1,a2,a3⟩:=hc
 refine⟨A,c,rfl,a1,a2,fun hn=>?_⟩
 obtain⟨b,off,rfl,ho,hu,hp⟩:=a3 hn
 exact⟨b,off,rfl,ho,h.uf b (hk b ho) hu,hp.scr h (hk b ho)⟩
def KnS (w:World)(ok:Nat->Prop)(g o:Nat)(x:Kn):Prop:=∃ A n B m C k,w.cell? ⟨g,o,none⟩=some (.slice A x.1.es.length n)/\w.cell? ⟨g,o+1,none⟩=some (.slice B x.1.ks.length m)/\w.cell? ⟨g,o+2,none⟩=some (.slice C x.2.length k) /\
 x.1.shp w ok (.slice A x.1.es.length n) (.slice B x.1.ks.length m)/\CxS w ok (.slice C x.2.length k) x.2.length
theorem Scr.head {base:Nat}{w w':World}(h:Scr base w w'){g o:Nat}{A:Option Addr}{n c:Nat}(hg:g<w.heap.size)(hc:w.cell? ⟨g,o,none⟩=some (.slice A n c)):w'.cell? ⟨g,o,none⟩=some (.slice A n c):=by
 obtain⟨v,e1,_,e3⟩:=h.cell g o _ hg hc
 rw[e1,e3 rfl]
theorem KnS.scr {base:Nat}{w w':World}(h:Scr base w w'){ok:Nat->Prop}(hk:∀ b,ok b->b<w.heap.size){g o:Nat}(hg:g<w.heap.size){x:Kn}(hx:KnS w ok g o x):KnS w' ok g o x:=by
 obtain⟨A,n,B,m,C,k,e1,e2,e3,e4,e5⟩:=hx
 exact⟨A,n,B,m,C,k,h.head hg e1,h.head hg e2,h.head hg e3,JX h hk _ _ _ e4,e5.scr h hk⟩
theorem KnS.of {w:World}{ok:Nat->Prop}{g o:Nat}{x:Kn}{a b c:Value}(e1:w.cell? ⟨g,o,none⟩=some a)(e2:w.cell? ⟨g,o+1,none⟩=some b)(e3:w.cell? ⟨g,o+2,none⟩=some c)(h1:x.1.rdu w ok a b)(h2:SlU w ok 3 SpE c x.2):KnS w ok g o x:=by
 obtain⟨A,n,B,m,rfl,rfl⟩:=QY h1
 obtain⟨C,k,rfl,_⟩:=id h2
 exact⟨A,n,B,m,C,k,e1,e2,e3,qZn _ _ _ h1,CxS.of h2⟩
section
variable {w:World}{G N:Kn}{ops:List Opr}{g:Nat}{okp:Nat->Prop}{v:Nat->V3}{vo:Value}
theorem XS (h:TxB w g okp v vo G N ops)(hR:caR G.1 G.2=true)(hN:G.1.sz<=4000)(hN':G.2.length<=20000) :
  Calls Tryz.prog 25 #[.pointer (some ⟨g,0,none⟩)] w (RetCU w G.1 G.2):=by
 have HST:=hid h
 have hgl:=h.lt
 obtain⟨a1,b1,c1,hv1⟩:∃ a b c,v 0=(a,b,c):=⟨_,_,_,rfl⟩
 have hrN:=h.rdG
 have hsN:=h.slG
 rw[hv1]at hrN hsN
 obtain⟨An,nn1,Bn,mn,e1,e2⟩:=Qj hrN
 obtain⟨Cn,kn,e3,_⟩:=hsN
 simp only at e1 e2 e3
 subst e1;subst e2;subst e3
 have HV1:=hid hv1
 have HX:Hid (∀ W,Below (w.heap.size+1) (w.alloc (.cells #[.slice none 0 0,.slice none 0 0,.slice none 0 0] 29)) W->(Below w.heap.size w W/\W.heap[w.heap.size]?=some (.cells #[.slice none 0 0,.slice none 0 0,.slice none 0 0] 29 (0,0))/\G.1.rd W W.heap.size (.slice An G.1.es.length nn1) (.slice Bn G.1.ks.length mn)/\SlP W W.heap.size 3 SpE (.slice Cn G.2.length kn) G.2/\W.cell? ⟨g,0,none⟩=some (.slice An G.1.es.length nn1)/\W.cell? ⟨g,1,none⟩=some (.slice Bn G.1.ks.length mn)/\W.cell? ⟨g,2,none⟩=some (.slice Cn G.2.length kn))):=fun W hW=>by
  have hB:Below w.heap.size w W:=((Below.refl _ w).alloc (Nat.le_refl _) _).trans (hW.mono (by omega))
  have hs:=HST.out.grow hB
  have r1:=hs.rdG
  have r2:=hs.slG
  obtain⟨d3,d4,d5,_⟩:=hs.cells
  rw[HV1.out]at r1 r2 d3 d4 d5
  exact⟨hB,(hW.block _ (by omega)).trans (Qd rfl),r1,r2,d3,d4,d5⟩
 have HE1:Hid (cloT G.1 G.2=G.1):=by unfold Hid cloT;rw[hR];rfl
 have HE2:Hid (cloC G.1 G.2=G.2):=by unfold Hid cloC;rw[hR];rfl
 clear h hv1 hrN hR
 go_enter Tryz.func25,Tryz.ntmps25
 obtain⟨hB,_,r1,r2,y0,y1,y2⟩:=HX.out _ (Below.refl _ _)
 have hgw:g≠w.heap.size:=by omega
 go_wp2_with fail
 refine (Ky G.1 G.2 _ _ _ _ r1 r2 hN hN').mono ?_
 rw[HE1.out,HE2.out]
 rintro e w6 ⟨xe6,xk6,xc6,rfl,hrd6,hsl6,hb6⟩
 obtain⟨A6,n6,A7,n7,hv6,hv7⟩:=QY hrd6
 subst hv6;subst hv7
 obtain⟨A8,n8,hv8⟩:=hsl6.shape
 subst hv8
 have hB6:Below (w.heap.size+1) (w.alloc (.cells #[.slice none 0 0,.slice none 0 0,.slice none 0 0] 29)) w6:=hb6.mono (by simp)
 have HSL6:=hid hsl6
 have HRD6:=hid hrd6
 obtain⟨hBw,hG,_⟩:=HX.out _ hB6
 have HG:=hid hG
 have HBW:=hid hBw
 obtain⟨k0,k1,k2,z0,z1,z2⟩:=bz3 hG
 have hlt6:=lt_of_block hG
 clear hG hBw hB6 hb6 hsl6 hrd6 hB r1 r2 y0 y1 y2
 go_wp2_with fail
 obtain⟨r0,r1,r2,hK,hS⟩:=box3 HG.out (.slice A6 G.1.es.length n6) (.slice A7 G.1.ks.length n7) (.slice A8 G.2.length n8)
 have hBW:Below w.heap.size w (((w6.setCell ⟨w.heap.size,0,none⟩ (.slice A6 G.1.es.length n6)).setCell ⟨w.heap.size,1,none⟩ (.slice A7 G.1.ks.length n7)).setCell ⟨w.heap.size,2,none⟩ (.slice A8 G.2.length n8)):=((HBW.out.setCell (Nat.le_refl _) _).setCell (Nat.le_refl _) _).setCell (Nat.le_refl _) _
 exact bodyPost_ret (v:=.agg #[.slice A6 G.1.es.length n6,.slice A7 G.1.ks.length n7,.slice A8 G.2.length n8]) (by simp[results,Tryz.results25,go_sem,r0,r1,r2]) rfl ⟨_,_,_,rfl,YH (fun b hb=>hK b (by have:=hb.1;simp only[World.size_alloc]at this;omega)) (fun b hb=>⟨by have:=hb.1;simp only[World.size_alloc]at this;omega,by rw[hS];exact hb.2⟩) _ _ _ HRD6.out,HSL6.out.up (fun b hb=>hK b (by have:=hb.1;simp only[World.size_alloc]at this;omega)) (fun b hb=>⟨by have:=hb.1;simp only[World.size_alloc]at this;omega,by rw[hS];exact hb.2⟩) (fun _ _ _ h=>h),hBW⟩
end
theorem zX8 {w5:World}{ok okp:Nat->Prop}{vo:Value}{A:Option Addr}{n:Nat}{o:Opr}(hs:SlU w5 ok 1 StE (.slice A o.path.length n) o.path)(ho:o.Ok)(h:∀ b,ok b->okp b/\b<w5.heap.size/\vo.ownBlock≠some b) :
  SlP (w5.alloc (.cells #[.slice A o.path.length n,.int .i64 o.act,.string o.s,.int .i64 o.n] 65)) (w5.alloc (.cells #[.slice A o.path.length n,.int .i64 o.act,.string o.s,.int .i64 o.n] 65)).heap.size 4 (OpU (w5.alloc (.cells #[.slice A o.path.length n,.int .i64 o.act,.string o.s,.int .i64 o.n] 65)) (fun b=>okp b/\b<(w5.alloc (.cells #[.slice A o.path.length n,.int .i64 o.act,.string o.s,.int .i64 o.n] 65)).heap.size/\vo.ownBlock≠some b)) (.slice (some ⟨w5.heap.size,0,none⟩) 1 1) [o]:=by
 refine SlP.oneB (w:=w5) ⟨_,_,rfl,?_,ho⟩ rfl _ rfl (by simp)
 exact hs.up (fun b hb=>Qg (h b hb).2.1) (fun b hb=>⟨(h b hb).1,by rw[World.size_alloc];exact Nat.lt_succ_of_lt (h b hb).2.1,(h b hb).2.2⟩) fun _ _ _ h=>h
def zX9 (w:World)(l:List Opr)(e:Ending)(w':World):Prop:=
 ∃ v,e=.returned v/\OwnD w' w.heap.size 65 4 OpU (fun b=>w.heap.size<=b) v l/\Below w.heap.size w w'
theorem Vh {w:World}{G N:Kn}{ops:List Opr}{g:Nat}{okp:Nat->Prop}{v:Nat->V3}{vo:Value}(h:TxB w g okp v vo G N ops)(hl:ops.length<=1000)(hpl:∀ x∈ops,x.path.length<=900000) :
  Calls Tryz.prog 23 #[.pointer (some ⟨g,0,none⟩)] w (zX9 w ops):=by
 have HST:=hid h
 have hgl:=h.lt
 have HL0:=hid (h.opl (by unfold Big;omega))
 obtain⟨Ao,no,hvo⟩:=OwnP.shape h.own
 subst hvo
 have c6:=h.cells.2.2.2.2.2.2
 have HPL:=hid hpl
 clear h hpl
 go_enter Tryz.func23,Tryz.ntmps23
 go_wp2_with fail
 go_loopw [3,13] (fun v i wr=>∃ k:Nat,k<=ops.length/\i=.int .i64 k/\OwnD wr w.heap.size 65 4 OpU (fun b=>w.heap.size<=b) v (ops.take k)/\Below w.heap.size w wr) (fun _ i _=>ops.length-(intOf i).toNat)
 case atStart=>exact⟨0,Nat.zero_le _,rfl,OwnD.nil,Below.refl _ _⟩
 case round=>
  clear c6
  obtain⟨k,hk,rfl,hown,hb⟩:=hrel
  have hsz:=hb.size
  by_cases hlt:k<ops.length
  ·obtain⟨x,hx⟩:∃ x,ops[k]?=some x:=⟨_,List.getElem?_eq_getElem hlt⟩
   obtain⟨b,off,A5,c5,rfl,hbB,hpx,hox,hu⟩:=OpL.at HL0.out hx
   obtain⟨e0,e1,e2,e3⟩:=hu wr (hb.block b hbB)
   have HT:Hid (ops.take (k+1)=ops.take k++[x]):=by unfold Hid;rw[List.take_add_one,hx];rfl
   have HPX:=hid (HPL.out x (List.mem_of_getElem? hx))
   have HB:=hid hb
   have HP:Hid (∀ W,Below wr.heap.size wr W->SlP W W.heap.size 1 StE (.slice A5 x.path.length c5) x.path):=fun W hW=>(hpx.imp hb hsz fun _ _ _ h=>h).imp hW hW.size fun _ _ _ h=>h
   have HOX:=hid hox
   have HOWN:=hid hown
   have HLT:Hid ((ops.take k).length + [x].length<=Few):=by unfold Hid Few;simp;omega
   clear hu hpx hx hox hown
   go_wp2_with fail
   refine (Jt x _ _ (HP.out _ (by go_grown)) HPX.out).mono ?_
   rintro e w1 ⟨vp1,rfl,hsl1,hb1⟩
   obtain⟨A6,c6,hv6⟩:=hsl1.shape
   subst hv6
   have hB1:Below wr.heap.size wr w1:=((Below.refl _ wr).alloc (Nat.le_refl _) _).trans (hb1.mono (by simp))
   have HB1:=hid hB1
   have hs1:=hB1.size
   have HSL:=hid hsl1
   have HRW:=hid (fun (vo:Value) (hvo:∀ b,vo.ownBlock=some b->b<wr.heap.size)=>zX8 (okp:=fun b=>w.heap.size<=b) (vo:=vo) (o:=x) HSL.out HOX.out fun b hb=>⟨by have:=hb.1;simp only[World.size_alloc]at this;omega,hb.2,fun e=>by have:=hvo b e;have:=hb.1;simp only[World.size_alloc]at this;omega⟩)
   clear hb1 hB1 hsl1
   go_wp2_with (at_builtin;go_loud ((with_reducible refine Za rfl (.tmp 17) (.tmp 20) _ rfl OpU.mon eiOp (by decide) (by decide) rfl (HOWN.out.grow OpU.mon (HB1.out.alloc hs1 _)) rfl (HRW.out _ fun b e=>(HOWN.out.lt b e).2) HLT.out (by rw[World.size_alloc];omega) ?_);intro v2 w2 hown2 hb2 _ _))
   go_roundw
   case rel=>exact⟨k+1,by omega,by go_num,by rw[HT.out];exact hown2,HB.out.trans (((HB1.out.alloc hs1 _).mono (by omega)).trans hb2)⟩
   case measure=>simp[intOf];omega
  ·have hke:k=ops.length:=by omega
   subst hke
   rw[List.take_of_length_le (Nat.le_refl _)]at hown
   go_wp2_with fail
   go_ret
   exact⟨_,rfl,hown,hb⟩
def Q9 (o:Opr):Bool:=decide (o.path.length<=9)&&(decide (o.s.size<=99)&&o.path.all fun k=>decide (k.size<=99))
theorem qXf (o:Opr)(vp:Value)(w:World)(h:SlP w w.heap.size 1 StE vp o.path)(ho:o.Ok) :
  Calls Tryz.prog 46 #[.agg #[vp,.int .i64 o.act,.string o.s,.int .i64 o.n]] w fun e w'=>e=.returned (.bool (Q9 o))/\Below w.heap.size w w':=by
 have hos:=ho.s
 obtain⟨A,n,rfl,c1,c2,c3⟩:=h
 unfold Big at c2 hos
 obtain⟨path,act,s,nn⟩:=o
 simp only at c1 c2 c3 hos ⊢
 have HSB:Hid (Q9 ⟨path,act,s,nn⟩=(decide (path.length<=9)&&(decide (s.size<=99)&&path.all fun k=>decide (k.size<=99)))):=rfl
 have hb0:Below w.heap.size w (w.alloc (.cells #[.slice A path.length n,.int .i64 act,.string s,.int .i64 nn] 65)):=(Below.refl _ w).alloc (Nat.le_refl _) _
 go_enter Tryz.func46,Tryz.ntmps46
 by_cases h9:9<path.length
 ·have HR:Hid (Q9 ⟨path,act,s,nn⟩=false):=by unfold Hid;rw[HSB.out,decide_eq_false (by omega)];rfl
  have e9:decide ((9:Int)<(path.length:Int))=true:=decide_eq_true (by omega)
  go_wp2_with fail
  go_ret
  exact⟨Qf HR.out.symm,hb0⟩
 have e9:decide ((9:Int)<(path.length:Int))=false:=decide_eq_false (by omega)
 have H9:Hid (decide (path.length<=9)=true):=decide_eq_true (by omega)
 by_cases h99:99<s.size
 ·have HR:Hid (Q9 ⟨path,act,s,nn⟩=false):=by unfold Hid;rw[HSB.out,H9.out,decide_eq_false (show ¬s.size<=99 by omega)];rfl
  have e99:decide ((99:Int)<(s.size:Int))=true:=decide_eq_true (by omega)
  go_wp2_with fail
  go_ret
  exact⟨Qf HR.out.symm,hb0⟩
 have e99:decide ((99:Int)<(s.size:Int))=false:=decide_eq_false (by omega)
 have HS2:Hid (Q9 ⟨path,act,s,nn⟩=path.all fun k=>decide (k.size<=99)):=by unfold Hid;rw[HSB.out,H9.out,decide_eq_true (show s.size<=99 by omega)];rfl
 go_wp2_with fail
 go_loop [17] (fun i=>∃ k:Nat,k<=path.length/\i=.int .i64 k/\Hid (((path.take k).all fun k=>decide (k.size<=99))=true)) (fun i=>path.length-(intOf i).toNat)
 case atStart=>exact⟨0,Nat.zero_le _,rfl,rfl⟩
 case round=>
  obtain⟨k,hk,rfl,hrel⟩:=hrel
  by_cases hlt:k<path.length
  ·obtain⟨x,hx⟩:∃ x,path[k]?=some x:=⟨_,List.getElem?_eq_getElem hlt⟩
   obtain⟨b,off,rfl,hbB,hc⟩:=c3 (by rintro rfl;simp at hlt)
   obtain⟨cs,⟨rfl,hok⟩,_,hu⟩:=hc k _ hx
   have e0:(w.alloc (.cells #[.slice (some ⟨b,off,none⟩) path.length n,.int .i64 act,.string s,.int .i64 nn] 65)).cell? ⟨b,off+k,none⟩=some (.string x):=(hb0.cell hbB).trans (by simpa using hu 0 _ rfl)
   have HM:Hid (x∈path):=List.mem_of_getElem? hx
   have HT:Hid (((path.take (k+1)).all fun k=>decide (k.size<=99))=decide (x.size<=99)):=by
    unfold Hid;rw[List.take_add_one,hx,List.all_append,hrel.out];simp
   unfold Big at hok
   clear hu hc c3 hx
   by_cases he:99<x.size
   ·have hq:decide ((99:Int)<(x.size:Int))=true:=decide_eq_true (by omega)
    have HR:Hid (Q9 ⟨path,act,s,nn⟩=false):=by
     unfold Hid;rw[HS2.out,List.all_eq_false];exact⟨x,HM.out,by simpa using he⟩
    go_wp2_with fail
    go_ret
    exact⟨Qf HR.out.symm,hb0⟩
   ·have hq:decide ((99:Int)<(x.size:Int))=false:=decide_eq_false (by omega)
    have HE:Hid (decide (x.size<=99)=true):=decide_eq_true (by omega)
    go_wp2_with fail
    go_round
    case rel=>exact⟨k+1,by omega,by go_num,by unfold Hid;rw[HT.out];exact HE.out⟩
    case measure=>simp[intOf];omega
  ·obtain rfl:k=path.length:=by omega
   have hr:=hrel.out
   rw[List.take_of_length_le (Nat.le_refl _)]at hr
   have HR:=hid hr
   clear hr hrel
   go_wp2_with fail
   go_ret
   exact⟨Qf (by rw[HS2.out,HR.out]),hb0⟩
def fewL (c:Kn)(l:List Opr):Bool:=sml9 c.1 c.2 40&&(decide (l.length<=20)&&l.all Q9)
theorem qUo (x:Kn)(l:List Opr)(ve vk vc vl:Value)(w:World)(h:x.1.rd w w.heap.size ve vk)(hc:SlP w w.heap.size 3 SpE vc x.2)(hl:OpL w vl l) :
  Calls Tryz.prog 19 #[.agg #[ve,vk,vc],vl] w fun e w'=>e=.returned (.bool (fewL x l))/\Below w.heap.size w w':=by
 have HL0:=hid hl
 have HT:Hid (∀ w',Below w.heap.size w w'->(x.1.rd w' w'.heap.size ve vk/\SlP w' w'.heap.size 3 SpE vc x.2)):=fun w' hb=>⟨Qi hb hb.size _ _ _ h,hc.imp hb hb.size fun _ _ _ h=>h⟩
 obtain⟨A3,n3,A4,n4,rfl,rfl⟩:=Qj h
 obtain⟨A5,n5,rfl,_⟩:=hc
 obtain⟨A,n,rfl,b1,b2,_⟩:=hl
 unfold Big at b2
 have hb0:Below w.heap.size w (w.alloc (.cells #[.slice A3 x.1.es.length n3,.slice A4 x.1.ks.length n4,.slice A5 x.2.length n5] 29)):=(Below.refl _ w).alloc (Nat.le_refl _) _
 have HB0:=hid hb0
 obtain⟨SM,HSM⟩:∃ q,Hid (sml9 x.1 x.2 40=q):=⟨_,rfl⟩
 clear h hb0
 go_enter Tryz.func19,Tryz.ntmps19
 go_wp2_with fail
 refine (qQo x.1 x.2 40 _ _ _ _ (HT.out _ HB0.out).1 (HT.out _ HB0.out).2 (by decide) (by decide)).mono ?_
 rw[HSM.out]
 cases SM
 ·rintro e w1 ⟨rfl,hb⟩
  have HR:Hid (fewL x l=false):=by unfold Hid fewL;rw[HSM.out];rfl
  have hB:=HB0.out.trans (hb.mono (by simp))
  go_wp2_with fail
  go_ret
  exact⟨Qf HR.out.symm,hB⟩
 ·rintro e w1 ⟨rfl,hb⟩
  have hB:=HB0.out.trans (hb.mono (by simp))
  have HB:=hid hB
  clear hb hB
  by_cases hm:20<l.length
  ·have HR:Hid (fewL x l=false):=by unfold Hid fewL;rw[decide_eq_false (show ¬l.length<=20 by omega)];simp
   have hm1:(20:Int)<(l.length:Int):=by omega
   have hm2:decide ((20:Int)<(l.length:Int))=true:=decide_eq_true hm1
   go_wp2_with fail
   go_ret
   exact⟨Qf HR.out.symm,HB.out⟩
  have hm1:¬((20:Int)<(l.length:Int)):=by omega
  have hm2:decide ((20:Int)<(l.length:Int))=false:=decide_eq_false hm1
  have HS:Hid (fewL x l=l.all Q9):=by unfold Hid fewL;rw[HSM.out,decide_eq_true (show l.length<=20 by omega)];rfl
  go_wp2_with fail
  go_loopw [16] (fun i wr=>∃ k:Nat,k<=l.length/\i=.int .i64 k/\Hid ((l.take k).all Q9=true)/\Below w.heap.size w wr) (fun i _=>l.length-(intOf i).toNat)
  case atStart=>exact⟨0,Nat.zero_le _,rfl,rfl,HB.out⟩
  case round=>
   obtain⟨k,hk,rfl,hall,hb⟩:=hrel
   by_cases hlt:k<l.length
   ·obtain⟨o,hx⟩:∃ o,l[k]?=some o:=⟨_,List.getElem?_eq_getElem hlt⟩
    obtain⟨b,off,A6,c6,rfl,hbB,hpx,hox,hu⟩:=OpL.at HL0.out hx
    obtain⟨e0,e1,e2,e3⟩:=hu wr (hb.block b hbB)
    have HM:Hid (o∈l):=List.mem_of_getElem? hx
    have HK:Hid ((l.take (k+1)).all Q9=Q9 o):=by
     unfold Hid;rw[List.take_add_one,hx,List.all_append,hall.out];simp
    have HPX:=hid (hpx.imp hb hb.size fun _ _ _ h=>h)
    have HOX:=hid hox
    clear hu hx hpx hox hm
    go_wp2_with fail
    refine (qXf o _ _ HPX.out HOX.out).mono ?_
    cases hs:Q9 o
    ·rintro e w1 ⟨rfl,hb1⟩
     have HR:Hid (l.all Q9=false):=by unfold Hid;rw[List.all_eq_false];exact⟨o,HM.out,by simp[hs]⟩
     have hB1:=hb.trans (hb1.mono hb.size)
     clear hs
     go_wp2_with fail
     go_ret
     exact⟨Qf (by rw[HS.out,HR.out]),hB1⟩
    ·rintro e w1 ⟨rfl,hb1⟩
     have HT2:Hid ((l.take (k+1)).all Q9=true):=by unfold Hid;rw[HK.out,hs]
     have hB1:=hb.trans (hb1.mono hb.size)
     clear hs
     go_wp2_with fail
     go_roundw
     case rel=>exact⟨k+1,by omega,by go_num,HT2,hB1⟩
     case measure=>simp[intOf];omega
   ·have hke:k=l.length:=by omega
    subst hke
    have HR:Hid (l.all Q9=true):=by have:=hall.out;rwa [List.take_of_length_le (Nat.le_refl _)]at this
    go_wp2_with fail
    go_ret
    exact⟨Qf (by rw[HS.out,HR.out]),hb⟩
theorem qKl (o:Opr)(va vb:Value)(w:World)(ha:SlP w w.heap.size 1 StE va o.path)(hb:SlP w w.heap.size 1 StE vb o.path) :
  Calls Tryz.prog 26 #[.agg #[va,.int .i64 o.act,.string o.s,.int .i64 o.n],.agg #[vb,.int .i64 o.act,.string o.s,.int .i64 o.n]] w fun e w'=>e=.returned (.bool true)/\Below w.heap.size w w':=by
 obtain⟨A,c,rfl,a1,a2,a3⟩:=ha
 obtain⟨A',c',rfl,b1,b2,b3⟩:=hb
 obtain⟨path,act,s,n⟩:=o
 simp only at a1 a2 a3 b1 b2 b3 ⊢
 unfold Big at a2
 have HX:Hid (∀ W,Below (w.heap.size+2) ((w.alloc (.cells #[.slice A path.length c,.int .i64 act,.string s,.int .i64 n] 65)).alloc (.cells #[.slice A' path.length c',.int .i64 act,.string s,.int .i64 n] 65)) W->(Below w.heap.size w W/\W.cell? ⟨w.heap.size,0,none⟩=some (.slice A path.length c)/\W.cell? ⟨w.heap.size,1,none⟩=some (.int .i64 act)/\W.cell? ⟨w.heap.size,2,none⟩=some (.string s)/\W.cell? ⟨w.heap.size,3,none⟩=some (.int .i64 n)/\W.cell? ⟨w.heap.size+1,0,none⟩=some (.slice A' path.length c')/\W.cell? ⟨w.heap.size+1,1,none⟩=some (.int .i64 act)/\W.cell? ⟨w.heap.size+1,2,none⟩=some (.string s)/\W.cell? ⟨w.heap.size+1,3,none⟩=some (.int .i64 n))):=fun W hW=>by
  have g0:W.heap[w.heap.size]?=some (.cells #[.slice A path.length c,.int .i64 act,.string s,.int .i64 n] 65 (0,0)):=(hW.block _ (by omega)).trans ((Qg (by simp)).trans (Qd rfl))
  have g1:W.heap[w.heap.size+1]?=some (.cells #[.slice A' path.length c',.int .i64 act,.string s,.int .i64 n] 65 (0,0)):=(hW.block _ (by omega)).trans (Qd (by simp))
  exact⟨(((Below.refl _ w).alloc (Nat.le_refl _) _).alloc (by simp) _).trans (hW.mono (by omega)),Qa (i:=0) g0,Qa (i:=1) g0,Qa (i:=2) g0,Qa (i:=3) g0,Qa (i:=0) g1,Qa (i:=1) g1,Qa (i:=2) g1,Qa (i:=3) g1⟩
 go_enter Tryz.func26,Tryz.ntmps26
 obtain⟨_,y0,y1,y2,y3,z0,z1,z2,z3⟩:=HX.out _ (Below.refl _ _)
 have hsn:(s.toList != s.toList)=false:=by simp
 have hnn:(n != n)=false:=by simp
 have han:(act != act)=false:=by simp
 go_wp2_with fail
 go_loopw [37] (fun i wr=>∃ k:Nat,k<=path.length/\i=.int .i64 k/\Below (w.heap.size+2) ((w.alloc (.cells #[.slice A path.length c,.int .i64 act,.string s,.int .i64 n] 65)).alloc (.cells #[.slice A' path.length c',.int .i64 act,.string s,.int .i64 n] 65)) wr) (fun i _=>path.length-(intOf i).toNat)
 case atStart=>exact⟨0,Nat.zero_le _,rfl,Below.refl _ _⟩
 case round=>
  obtain⟨k,hk,rfl,hb⟩:=hrel
  clear y0 y1 y2 y3 z0 z1 z2 z3
  obtain⟨hB,y0,y1,y2,y3,z0,z1,z2,z3⟩:=HX.out _ hb
  by_cases hlt:k<path.length
  ·obtain⟨x,hx⟩:∃ x,path[k]?=some x:=⟨_,List.getElem?_eq_getElem hlt⟩
   obtain⟨ba,oa,rfl,hbA,hca⟩:=a3 (by rintro rfl;simp at hlt)
   obtain⟨bb,ob,rfl,hbB,hcb⟩:=b3 (by rintro rfl;simp at hlt)
   obtain⟨cs,⟨rfl,hok⟩,_,hu⟩:=hca k _ hx
   obtain⟨cs,⟨rfl,hok2⟩,_,hv⟩:=hcb k _ hx
   have e0:wr.cell? ⟨ba,oa+k,none⟩=some (.string x):=(hB.cell hbA).trans (by simpa using hu 0 _ rfl)
   have e1:wr.cell? ⟨bb,ob+k,none⟩=some (.string x):=(hB.cell hbB).trans (by simpa using hv 0 _ rfl)
   have hq:(x.toList != x.toList)=false:=by simp
   have HB:=hid hb
   clear hu hv hca hcb a3 b3 hx hb
   go_wp2_with fail
   go_quiet (fail)
   go_wp2_with fail
   go_roundw
   case rel=>exact⟨k+1,by omega,by go_num,below_drewN HB.out _⟩
   case measure=>simp[intOf];omega
  ·have hke:k=path.length:=by omega
   subst hke
   go_wp2_with fail
   go_ret
   exact⟨rfl,hB⟩
end Go.Proofs.YtbcoelggdikipaaGreat
