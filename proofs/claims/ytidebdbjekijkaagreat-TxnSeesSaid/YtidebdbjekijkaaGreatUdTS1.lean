/- What the laws need. No condition but those that each lemma states. -/
import Derived.Test.YtidebdbjekijkaaGreatUd7
import Derived.Test.YtidebdbjekijkaaGreatUd8
import Derived.Test.YtidebdbjekijkaaGreatUd10
import Derived.Test.YtidebdbjekijkaaGreatUd14
import Derived.Test.YtidebdbjekijkaaGreatUd5
import Derived.Test.YtidebdbjekijkaaGreatUd2
import Derived.Test.YtidebdbjekijkaaGreatUd3
import Derived.Test.YtidebdbjekijkaaGreatUd9
import Derived.Test.YtidebdbjekijkaaGreatUd1
import Derived.Test.YtidebdbjekijkaaGreatUd12
set_option maxRecDepth 100000
set_option maxHeartbeats 8000000
set_option linter.unusedSimpArgs false
namespace Go.Proofs.YtidebdbjekijkaaGreat
open Go.RowKit
theorem stE_dots {t:Tr}(h:t.Ord){p:List ByteArray}{d:Dt}{e:En}(hs:stE t p d=some e):d∈t.dots:=by
 obtain⟨h1,h2⟩:=(QC h).1 hs
 exact (Yf t d).2 ⟨p,e,h1,h2⟩
theorem st_ext {s t:Tr}(h:s.Ord)(k:t.Ord)(hl:∀ p x,stE s p x=stE t p x):s=t:=
 qWi s t h k fun ⟨p,e⟩=>by
  have h1:=@QC s h p e.dot e
  have h2:=@QC t k p e.dot e
  rw[hl]at h1
  simp only[and_true]at h1 h2
  exact h1.symm.trans h2
theorem onB_nil:onB (.mk [] [])=false:=by unfold onB;simp[Tr.es]
theorem getSt {t:Tr}(h:t.Ord)(p q:List ByteArray)(d:Dt):stE (getK t p) q d=stE t (p++q) d:=by
 have ho:=JM h p
 cases hs:stE t (p++q) d with
 |none=>exact (JL ho).2 fun e he=>(JL h).1 hs e ((ZQ p h).1 he)
 |some e=>
  obtain⟨h1,h2⟩:=(QC h).1 hs
  exact (QC ho).2 ⟨(ZQ p h).2 h1,h2⟩
theorem sdNil:sdL []=[]:=by
 have h:=(YC []).2
 cases he:sdL [] with
 |nil=>rfl
 |cons x l=>have:=(h x).1 (by rw[he];simp);cases this
theorem aft_st {x:Kn}(hx:KOk x){o:Opr}{d:Dt}(h:appI x.1 o d=0)(q:List ByteArray)(z:Dt) :
  stE (getK (aftK x o d).1 o.path) q z=jnO (stE (getK x.1 o.path) q z) (hasC x.2 z) (if Qv o.act=true/\q=(if o.act=3 then [o.s] else [])/\z=d then some (entE o d) else none) (decide (z=d∨z∈seesD x.1 o)):=by
 have hX:KOk (appT x.1 o d,appC x.1 o d):=(QR h).1
 rw[getSt (qJ5 hx h).ord,getSt hx.ord]
 unfold aftK
 rw[jn_st hx hX]
 simp only
 rw[zX1 h,Kx h]
 have:(o.path++q=endP o)↔q=(if o.act=3 then [o.s] else []):=by
  unfold endP
  exact⟨fun e=>List.append_cancel_left e,fun e=>by rw[e]⟩
 simp only[this]
theorem aft_none {x:Kn}(hx:KOk x){d:Dt}(hd:hasC x.2 d=false)(p q:List ByteArray):stE (getK x.1 p) q d=none:=by
 rw[getSt hx.ord]
 cases hs:stE x.1 (p++q) d with
 |none=>rfl
 |some y=>have h1:hasC x.2 d=true:=(Zd hx hs).1;rw[h1]at hd;cases hd
theorem st_dots {u:Tr}(ho:u.Ord){q:List ByteArray}{z:Dt}{y:En}(hs:stE u q z=some y):z∈u.dots:=stE_dots ho hs
theorem tr_nil {u:Tr}(ho:u.Ord)(h:∀ q z,stE u q z=none):u=.mk [] []:=st_ext ho qXq fun p x=>by rw[h,zYp]
theorem read_of {x:Kn}(hx:KOk x){p:List ByteArray}(hp:pathI p=0):readI x.1 p=0/\readV x.1 p=viewK (kindB (lastK p)) (getK x.1 p):=by
 have hr:x.1.right 5=true:=(Z5 hx.ord).2 hx.leaf
 have hI:readI x.1 p=0:=by unfold readI;rw[hr,hp];rfl
 exact⟨hI,by unfold readV;rw[if_pos hI]⟩
theorem aft_right {x:Kn}(hx:KOk x)(p:List ByteArray):(getK x.1 p).right 5=true:=QU ((Z5 hx.ord).2 hx.leaf) p
theorem aft_new {x:Kn}(hx:KOk x){o:Opr}{d:Dt}(h:appI x.1 o d=0)(hd:hasC x.2 d=false)(he:Qv o.act=true):stE (getK (aftK x o d).1 o.path) (if o.act=3 then [o.s] else []) d=some (entE o d):=by
 rw[aft_st hx h,aft_none hx hd,hd,if_pos ⟨he,rfl,rfl⟩];simp[jnO]
theorem aft_old {x:Kn}(hx:KOk x){o:Opr}{d:Dt}(h:appI x.1 o d=0)(_:hasC x.2 d=false){q:List ByteArray}{z:Dt}(hz:z≠d):stE (getK (aftK x o d).1 o.path) q z=if z∈seesD x.1 o then none else stE (getK x.1 o.path) q z:=by
 rw[aft_st hx h,if_neg (fun e=>hz e.2.2)]
 cases hs:stE (getK x.1 o.path) q z with
 |none=>simp[jnO]
 |some y=>by_cases h1:z∈seesD x.1 o<;>simp[jnO,h1,hz]
theorem aft_at {x:Kn}(hx:KOk x){o:Opr}{d:Dt}(h:appI x.1 o d=0)(hd:hasC x.2 d=false){q:List ByteArray}:stE (getK (aftK x o d).1 o.path) q d=if Qv o.act=true/\q=(if o.act=3 then [o.s] else []) then some (entE o d) else none:=by
 rw[aft_st hx h,aft_none hx hd,hd]
 by_cases h1:Qv o.act=true/\q=(if o.act=3 then [o.s] else [])
 ·rw[if_pos ⟨h1.1,h1.2,rfl⟩,if_pos h1];simp[jnO]
 ·rw[if_neg (fun e=>h1 ⟨e.1,e.2.1⟩),if_neg h1];simp[jnO]
theorem es_one {u:Tr}(ho:u.Ord){y:En}(h1:y∈u.es)(h2:∀ z∈u.es,z.dot=y.dot):u.es=[y]:=by
 obtain⟨es,ks⟩:=u
 have hp:=(QS.1 ho).1
 simp only[Tr.es]at *
 match es,hp,h1,h2 with
 |[a],_,h1,_=>simp at h1;rw[h1]
 |a :: b :: es,hp,_,h2=>
  have h3:=(List.pairwise_cons.1 hp).1 b (by simp)
  rw[h2 a (by simp),h2 b (by simp),Jn]at h3;cases h3
theorem sees_plain {x:Kn}(hx:KOk x){o:Opr}{d:Dt}(h:appI x.1 o d=0)(hd:hasC x.2 d=false) :
  (o.act=1->(readV (aftK x o d).1 o.path).on=true)/\(o.act=2->(readV (aftK x o d).1 o.path).on=false)/\(o.act=3->o.s∈(readV (aftK x o d).1 o.path).l)/\(o.act=4->o.s∉(readV (aftK x o d).1 o.path).l) /\
  (o.act=5->(readV (aftK x o d).1 o.path).n=wrap64 ((readV x.1 o.path).n+o.n))/\(o.act=6->(readV (aftK x o d).1 o.path).l=[o.s])/\(o.act=7->(readV (aftK x o d).1 o.path).on=false/\(readV (aftK x o d).1 o.path).l=[]/\(readV (aftK x o d).1 o.path).n=0):=by
 obtain⟨h1,h2,h3,h4⟩:=Kv h
 have hy:=qJ5 hx h
 obtain⟨k1,k2,k3,k4⟩:=X3 h2
 rw[(read_of hy h2.path).2,(read_of hx h2.path).2]
 have hur:=aft_right hy o.path
 have huo:=JM hy.ord o.path
 have hvr:=aft_right hx o.path
 have hvo:=JM hx.ord o.path
 have hnew:=aft_new hx h hd
 have hold:=fun (q:List ByteArray) (z:Dt) (hz:z≠d)=>aft_old hx h hd (q:=q) hz
 have hat:=fun (q:List ByteArray)=>aft_at hx h hd (q:=q)
 generalize hu:getK (aftK x o d).1 o.path=u at *
 generalize hv:getK x.1 o.path=v at *
 refine⟨fun ha=>?_,fun ha=>?_,fun ha=>?_,fun ha=>?_,fun ha=>?_,fun ha=>?_,fun ha=>?_⟩
 ·have hn:=hnew (by unfold Qv;simp[ha])
  rw[if_neg (by omega)]at hn
  have:=(st_es huo (y:=entE o d)).2 hn
  unfold viewK
  rw[k1 (.inl ha)]
  simp only[if_pos]
  unfold onB
  rw[hur,Bool.true_and,decide_eq_true_eq]
  exact List.length_pos_of_mem this
 ·have hes:u.es=[]:=by
   rw[List.eq_nil_iff_forall_not_mem]
   intro y hy
   have hs:=(st_es huo).1 hy
   by_cases hz:y.dot=d
   ·rw[hz,hat,if_neg (by unfold Qv;simp[ha])]at hs;cases hs
   ·rw[hold _ _ hz]at hs
    split at hs
    ·cases hs
    ·rename_i hns
     refine hns ?_
     rw[Xc (.inr (.inl ha)),hv]
     exact st_dots hvo hs
  unfold viewK
  rw[k1 (.inr ha)]
  simp only[if_pos]
  unfold onB
  rw[hes];simp
 ·have hn:=hnew (by unfold Qv;simp[ha])
  rw[if_pos ha]at hn
  unfold viewK
  rw[k2 (.inl ha)]
  simp only[if_pos]
  rw[Kr hur]
  exact qUp.2 ⟨_,((QC huo).1 hn).1⟩
 ·unfold viewK
  rw[k2 (.inr ha)]
  simp only[if_pos]
  rw[Kr hur]
  intro hm
  obtain⟨y,hm⟩:=qUp.1 hm
  have hs:=(QC huo).2 ⟨hm,rfl⟩
  by_cases hz:y.dot=d
  ·rw[hz,hat,if_neg (by unfold Qv;simp[ha])]at hs;cases hs
  ·rw[hold _ _ hz]at hs
   split at hs
   ·cases hs
   ·rename_i hns
    refine hns ?_
    rw[qQb (.inr ha),YT hx.ord]
    have h5:=((QC hvo).1 hs).1
    rw[←hv,ZQ o.path hx.ord]at h5
    exact⟨[],y,by rw[List.append_nil];exact h5,rfl⟩
 ·have hn:=hnew (by unfold Qv;simp[ha])
  rw[if_neg (by omega)]at hn
  have hfl:v.es.length<24:=by
   unfold fullB at h4
   have hend:endP o=o.path:=by unfold endP;rw[if_neg (by omega),List.append_nil]
   rw[hend,hv]at h4
   simp[Qv,ha]at h4
   omega
  have hdv:∀ y∈v.es,y.dot≠d:=fun y hy e=>by
   have hs:=(st_es hvo).1 hy
   rw[e,←hv,aft_none hx hd]at hs;cases hs
  have hperm:u.es.Perm (entE o d :: v.es):=by
   refine (List.perm_ext_iff_of_nodup ?_ ?_).2 fun y=>?_
   ·obtain⟨es,ks⟩:=u
    exact (QS.1 huo).1.imp fun {a b} hh e=>by rw[e,Jn]at hh;cases hh
   ·refine List.nodup_cons.2 ⟨fun hm=>hdv _ hm rfl,?_⟩
    obtain⟨es,ks⟩:=v
    exact (QS.1 hvo).1.imp fun {a b} hh e=>by rw[e,Jn]at hh;cases hh
   ·rw[List.mem_cons,st_es huo,st_es hvo]
    by_cases hz:y.dot=d
    ·rw[hz,hat,if_pos ⟨by unfold Qv;simp[ha],by rw[if_neg (by omega)]⟩]
     constructor
     ·intro e;cases e;exact .inl rfl
     ·rintro (rfl|hs)
      ·rfl
      ·rw[←hv,aft_none hx hd]at hs;cases hs
    ·rw[hold _ _ hz,qJz ha,if_neg (by simp)]
     constructor
     ·exact .inr
     ·rintro (rfl|hs)
      ·exact absurd rfl hz
      ·exact hs
  have hbd:∀ {A:Tr},A.right 5=true->∀ e∈A.es,-1099511627776<=e.v/\e.v<=1099511627776:=fun {A} hA e he=>by
   have:=(Y9 A 5 hA ([],e) (ZJ.2 he)).2.2
   unfold En.right at this;simp at this;omega
  have hl:=hperm.length_eq
  rw[List.length_cons]at hl
  have p1:=zX3 (hbd hur) (by omega)
  have p2:=zX3 (hbd hvr) (by omega)
  have hnb:-1099511627776<=o.n/\o.n<=1099511627776:=hbd hur (entE o d) (hperm.symm.subset (by simp))
  unfold viewK
  rw[k3 ha]
  simp only[if_pos]
  unfold valT
  rw[hur,hvr,if_pos rfl,if_pos rfl,p1.1,p2.1,qU7 hperm,ZG]
  have e1:(entE o d).v=o.n:=rfl
  rw[e1]
  unfold wrap64
  omega
 ·have hn:=hnew (by unfold Qv;simp[ha])
  rw[if_neg (by omega)]at hn
  have hes:u.es=[entE o d]:=by
   refine es_one huo ((st_es huo).2 hn) fun z hz=>?_
   have hs:=(st_es huo).1 hz
   by_cases hzd:z.dot=d
   ·exact hzd
   ·exfalso
    rw[hold _ _ hzd]at hs
    split at hs
    ·cases hs
    ·rename_i hns
     refine hns ?_
     rw[qJ0 ha,hv]
     unfold ownD
     exact List.mem_map.2 ⟨z,(st_es hvo).2 hs,rfl⟩
  unfold viewK
  rw[k4 ha]
  simp only
  rw[if_neg (by omega)]
  simp only[if_true]
  rw[valsR hur]
  unfold txtL
  rw[hes]
  simp only[List.map_cons,List.map_nil]
  have e1:(entE o d).s=o.s:=by unfold entE;rw[if_pos ha]
  rw[e1]
  exact Zt Qw (fun _ _ _ h k=>QD h k) (YC [o.s]).1 (List.pairwise_singleton _ _) fun x=>(YC [o.s]).2 x
 ·have hn:u=.mk [] []:=by
   refine tr_nil huo fun q z=>?_
   by_cases hz:z=d
   ·rw[hz,hat,if_neg (by unfold Qv;simp[ha])]
   ·rw[hold _ _ hz]
    split
    ·rfl
    ·rename_i hns
     cases hs:stE v q z with
     |none=>rfl
     |some y=>
      refine absurd ?_ hns
      rw[Xc (.inr (.inr ha)),hv]
      exact st_dots hvo hs
  rw[hn]
  unfold viewK
  refine⟨?_,?_,?_⟩
  ·simp only;split
   ·exact onB_nil
   ·rfl
  ·simp only
   split
   ·rw[Kr (by rw[←hn];exact hur)];rfl
   ·split
    ·rw[valsR (by rw[←hn];exact hur)];exact sdNil
    ·split
     ·unfold Q4;split<;>rfl
     ·rfl
  ·simp only
   split
   ·unfold valT sumE;split<;>rfl
   ·rfl
theorem has20_any (l:List ByteArray)(s:ByteArray)(v:Value)(w:World)(h:SlP w w.heap.size 1 StE v l) :
  Calls Tryz.prog 36 #[v,.string s] w fun e w'=>e=.returned (.bool (l.any fun x=>decide (x=s)))/\Below w.heap.size w w':=by
 obtain⟨A,n,rfl,b1,b2,b3⟩:=h
 unfold Big at b2
 go_enter Tryz.func36,Tryz.ntmps36
 go_wp2_with fail
 go_loopw [8] (fun i wr=>∃ k:Nat,k<=l.length/\i=.int .i64 k/\Hid (((l.take k).any fun x=>decide (x=s))=false)/\Below w.heap.size w wr) (fun i _=>l.length-(intOf i).toNat)
 case atStart=>exact⟨0,Nat.zero_le _,rfl,rfl,Below.refl _ _⟩
 case round=>
  obtain⟨k,hk,rfl,hall,hb⟩:=hrel
  by_cases hlt:k<l.length
  ·obtain⟨x,hx⟩:∃ x,l[k]?=some x:=⟨_,List.getElem?_eq_getElem hlt⟩
   obtain⟨b,off,rfl,hbB,hc⟩:=b3 (by rintro rfl;simp at hlt)
   obtain⟨cs,⟨rfl,hok⟩,_,hu⟩:=hc k _ hx
   have e0:wr.cell? ⟨b,off+k,none⟩=some (.string x):=(hb.cell hbB).trans (by simpa using hu 0 _ rfl)
   have HM:Hid (x∈l):=List.mem_of_getElem? hx
   have HT:Hid (((l.take (k+1)).any fun x=>decide (x=s))=decide (x=s)):=by
    unfold Hid;rw[List.take_add_one,hx,List.any_append,hall.out];simp
   clear hu hc b3 hx
   by_cases he:x=s
   ·have hq:(x.toList==s.toList)=true:=by rw[he];simp
    have HR:Hid ((l.any fun x=>decide (x=s))=true):=by unfold Hid;rw[List.any_eq_true];exact⟨x,HM.out,by simp[he]⟩
    clear he
    go_wp2_with fail
    go_ret
    exact⟨Qf HR.out.symm,hb⟩
   ·have hq:(x.toList==s.toList)=false:=by simp[QN];exact he
    have HT2:Hid (((l.take (k+1)).any fun x=>decide (x=s))=false):=by unfold Hid;rw[HT.out,decide_eq_false he]
    clear he
    go_wp2_with fail
    go_roundw
    case rel=>exact⟨k+1,by omega,by go_num,HT2,hb⟩
    case measure=>simp[intOf];omega
  ·have hke:k=l.length:=by omega
   subst hke
   have HR:Hid ((l.any fun x=>decide (x=s))=false):=by have:=hall.out;rwa [List.take_of_length_le (Nat.le_refl _)]at this
   go_wp2_with fail
   go_ret
   exact⟨Qf HR.out.symm,hb⟩
end Go.Proofs.YtidebdbjekijkaaGreat
namespace Go.Proofs.YtidebdbjekijkaaGreat
open Go.ChangeShapes Go.WideShapes Go.ChangeAt Go.RowKit
theorem okOp:Tryz.prog.readableRec 59=true/\59<Tryz.prog.types.size:=⟨by kernel_rfl,of_decide_eq_true (by kernel_rfl)⟩
section
variable {H:Type}{enc:TypeId×Value->H}{w:World}
end
section
variable {H:Type}{enc:TypeId×Value->H}{W:World}{base:Nat}{v:Value}{d:DataW H}{p:List MemPlace}
theorem op_arg (hv:Value.okWide Tryz.prog W .any base 59 v)(h:DataW.Trod enc Tryz.prog W 0 (fun _=>true) true 59 v d p)(hw:Wt Tryz.prog 59 d) :
  ∃ o:Opr,∃ vp,v=.agg #[vp,.int .i64 o.act,.string o.s,.int .i64 o.n]/\SlP W W.heap.size 1 StE vp o.path/\o.Ok:=by
 obtain⟨cs,rfl,hs⟩:=okWide_struct Tryz.underlying59 hv
 obtain⟨fuel,hf⟩:=h
 obtain⟨o,vp,e,ht,hc⟩:=zJg hf hw
 refine⟨o,vp,?_,ht,hc⟩
 simp[Value.cells]at e
 obtain⟨l⟩:=cs
 simp at e
 rw[e]
end
end Go.Proofs.YtidebdbjekijkaaGreat
namespace Go.Proofs.YtidebdbjekijkaaGreat
open Go.RowKit
theorem step_dB {α:Type}{P:Program}{ops:Array Oper}{o:Oper}{a:Act}{K:Act->World->Prop}{Q:Exit->Act->World->Prop}{F:Prop}{w:World}(hg:o.guard=none∨Region.wanted o (yielded ops a.tmps)=true)(s x:Operand)(t:TypeId)
  (hop:o.op=.call { callee:=.builtin .append,args:=#[s,x],argTypes:=#[t,t] }){e:TypeId}{sz bytes base:Nat}{E:World->(Nat->Prop)->α->List Value->Prop}{okp:Nat->Prop}{v sv:Value}{xs ys:List α}(hE:Emon E) (hi:Qs P t e sz bytes) (hsz:0<sz)
  (hs:a.eval s=v) (hown:OwnD w base e sz E okp v xs) (hx:a.eval x=sv) (hys:SlP w w.heap.size sz (E w (fun b=>okp b/\b<w.heap.size/\v.ownBlock≠some b)) sv ys) (hl:(xs.length+ys.length)*bytes<=140737488355328) (hl2:xs.length+ys.length<=Big) (hbase:base<=w.heap.size)
  (h:∀ v' w',OwnD w' base e sz E okp v' (xs++ys)->Below base w w'->w.grownBy w' v.ownBlock->(v'.ownBlock=v.ownBlock∨v'.ownBlock=some w.heap.size)->K (a.put o.dst v') w') :
  if Region.wanted o (yielded ops a.tmps)=true then Oper.wp P o a w K Q else F:=by
 have hw:Region.wanted o (yielded ops a.tmps)=true:=by
  rcases hg with hg|hg
  ·simp[Region.wanted,hg]
  ·exact hg
 rw[if_pos hw]
 obtain⟨v',w',r1,h1,h2,h3⟩:=VP (P:=P) (ty:=o.type) hi hsz (fun _ _ h=>hE.one h) hown hys hl hl2 hbase
 unfold Oper.wp execOp
 simp only[hop,resolve,invoke,builtin,Sem.run_bind,Sem.run_pure,Result.andThen_ok,List.map_toArray,List.map_cons,List.map_nil,hs,hx,r1]
 refine h v' w' ?_ ((Below.refl base w).grown h2 hbase fun g hg=>(OwnP.lt hown g hg).1) h2 h3
 refine h1.imp fun y _ cs hy=>hE.up (fun b hb=>h2.block b hb.2.1 (Ne.symm hb.2.2)) (fun b hb=>⟨hb.1,Nat.lt_of_lt_of_le hb.2.1 h2.size,?_⟩) hy
 rcases h3 with h3|h3
 ·rw[h3];exact hb.2.2
 ·rw[h3];intro e;cases e;exact absurd hb.2.1 (Nat.lt_irrefl _)
theorem opl_src {w W:World}{v u:Value}{l:List Opr}(h:OpL w v l)(hb:Below w.heap.size w W)(hv:∀ b,b<w.heap.size->u.ownBlock≠some b):SlP W W.heap.size 4 (OpA W (fun b=>b<w.heap.size/\b<W.heap.size/\u.ownBlock≠some b)) v l:=
 SlP.imp h hb hb.size fun _ _ _ hx=>OpA.mon.up (fun b hb'=>hb.block b hb') (fun b hb'=>⟨hb',Nat.lt_of_lt_of_le hb' hb.size,hv b hb'⟩) hx
theorem any_mem1 {l:List ByteArray}{s:ByteArray}(h:s∈l):(l.any fun x=>decide (x=s))=true:=List.any_eq_true.2 ⟨s,h,by simp⟩
theorem any_mem0 {l:List ByteArray}{s:ByteArray}(h:s∉l):(l.any fun x=>decide (x=s))=false:=by
 rw[List.any_eq_false]
 intro x hx
 rw[decide_eq_true_eq]
 exact fun e=>h (e▸hx)
theorem tx_new {G N:Kn}{O:List Opr}(hG:KOk G)(hz:G.1.sz<=40)(h:TxI G (O,N))(hown:∀ k,k<12->hasC G.2 (txD k)=false)(hl:O.length<12):hasC N.2 (txD O.length)=false:=by
 have hn:N=(chS txD G O).2.1:=h.now
 have hc:=(VI hG (by omega) h.len h.ok O.length (Nat.le_refl _)).has (txD O.length)
 rw[List.take_length,←hn]at hc
 cases hh:hasC N.2 (txD O.length)
 ·rfl
 ·rcases hc.1 hh with h1|⟨i,hi,e⟩
  ·rw[hown _ hl]at h1;cases h1
  ·have:=zYx e;omega
theorem act_seven {o:Opr}(h:OpOk o):o.act=1∨o.act=2∨o.act=3∨o.act=4∨o.act=5∨o.act=6∨o.act=7:=by
 have h1:=h.act
 unfold actB at h1
 split at h1
 ·omega
 ·split at h1
  ·omega
  ·split at h1
   ·omega
   ·split at h1
    ·omega
    ·rw[decide_eq_true_eq]at h1;omega
theorem lawTS_any (t:Tr)(tc:List Sp)(l:List Opr)(o:Opr)(w:World)(ve0 vk0 vc0 vl1 vp2:Value)(h0:t.rd w w.heap.size ve0 vk0)(hc0:SlP w w.heap.size 3 SpE vc0 tc)(h1:OpL w vl1 l)(h2:SlP w w.heap.size 1 StE vp2 o.path)(_:o.Ok)(hbig:l.length*56<=140737488351232) :
  Calls Tryz.prog 6 #[.agg #[ve0,vk0,vc0],vl1,.agg #[vp2,.int .i64 o.act,.string o.s,.int .i64 o.n]] w fun e w'=>e=.returned (.bool true)/\Below w.heap.size w w':=by
 have h1x:=hid h1
 have h2x:=hid h2
 have HC0:Hid (∀ w',Below w.heap.size w w'->t.rd w' w'.heap.size ve0 vk0):=fun w' hb=>Qi hb hb.size _ _ _ h0
 have HD0:Hid (∀ w',Below w.heap.size w w'->SlP w' w'.heap.size 3 SpE vc0 tc):=fun w' hb=>hc0.imp hb hb.size fun _ _ _ h=>h
 obtain⟨A0,n0,B0,m0,rfl,rfl⟩:=Qk h0
 obtain⟨D0,k0,rfl,_⟩:=hc0
 clear h0
 have HC1:Hid (∀ w',Below w.heap.size w w'->OpL w' vl1 l):=fun w' hb=>h1.up hb
 obtain⟨A1,n1,rfl,_⟩:=id h1
 have HC2:Hid (∀ w',Below w.heap.size w w'->SlP w' w'.heap.size 1 StE vp2 o.path):=fun w' hb=>h2.imp hb hb.size fun _ _ _ h=>h
 obtain⟨A2,n2,rfl,_⟩:=h2
 have HX0:Hid (∀ W,Below (w.heap.size+2) ((w.alloc (.cells #[.slice A0 t.es.length n0,.slice B0 t.ks.length m0,.slice D0 tc.length k0] 29)).alloc (.cells #[.slice A2 o.path.length n2,.int .i64 o.act,.string o.s,.int .i64 o.n] 59)) W->(Below w.heap.size w W/\w.heap.size+2<=(W).heap.size/\t.rd W (W).heap.size (.slice A0 t.es.length n0) (.slice B0 t.ks.length m0)/\SlP W (W).heap.size 3 SpE (.slice D0 tc.length k0) tc/\OpL W (.slice A1 l.length n1) l/\SlP W (W).heap.size 1 StE (.slice A2 o.path.length n2) o.path/\(W).cell? ⟨w.heap.size,0,none⟩=some (.slice A0 t.es.length n0)/\(W).cell? ⟨w.heap.size,1,none⟩=some (.slice B0 t.ks.length m0)/\(W).cell? ⟨w.heap.size,2,none⟩=some (.slice D0 tc.length k0)/\(W).cell? ⟨(w.heap.size+1),0,none⟩=some (.slice A2 o.path.length n2)/\(W).cell? ⟨(w.heap.size+1),1,none⟩=some (.int .i64 o.act)/\(W).cell? ⟨(w.heap.size+1),2,none⟩=some (.string o.s)/\(W).cell? ⟨(w.heap.size+1),3,none⟩=some (.int .i64 o.n))):=fun W hW=>by
  have g0:W.heap[w.heap.size]?=some (.cells #[.slice A0 t.es.length n0,.slice B0 t.ks.length m0,.slice D0 tc.length k0] 29 (0,0)):=(hW.block _ (by omega)).trans ((Qg (by simp<;>omega)).trans (Qc rfl))
  have g1:W.heap[(w.heap.size+1)]?=some (.cells #[.slice A2 o.path.length n2,.int .i64 o.act,.string o.s,.int .i64 o.n] 59 (0,0)):=(hW.block _ (by omega)).trans (Qc (by simp))
  have hB:Below w.heap.size w W:=(((Below.refl _ w).alloc (Nat.le_refl _) _).alloc (by simp<;>omega) _).trans (hW.mono (by omega))
  exact⟨hB,by have:=hW.size;simpa using this,HC0.out _ hB,HD0.out _ hB,HC1.out _ hB,HC2.out _ hB,Qa (i:=0) g0,Qa (i:=1) g0,Qa (i:=2) g0,Qa (i:=0) g1,Qa (i:=1) g1,Qa (i:=2) g1,Qa (i:=3) g1⟩
 have hnb1:w.heap.size+1≠w.heap.size:=by omega
 go_enter Tryz.func6,Tryz.ntmps6
 have HOK:=hid ‹o.Ok›
 obtain⟨FW,HFW⟩:∃ q,Hid (fewL (t,tc) (l++[o])=q):=⟨_,rfl⟩
 go_upto_region 1 with (fail)
 obtain⟨hB,hs,rt0,rc0,ro1,rl2,c00,c01,c02,c20,c21,c22,c23⟩:=HX0.out _ (Below.refl _ _)
 have HKS:Hid (∀ W,Below (w.heap.size+2) ((w.alloc (.cells #[.slice A0 t.es.length n0,.slice B0 t.ks.length m0,.slice D0 tc.length k0] 29)).alloc (.cells #[.slice A2 o.path.length n2,.int .i64 o.act,.string o.s,.int .i64 o.n] 59)) W->W.cell? ⟨w.heap.size,0,none⟩=some (.slice A0 t.es.length n0)/\W.cell? ⟨w.heap.size,1,none⟩=some (.slice B0 t.ks.length m0)/\W.cell? ⟨w.heap.size,2,none⟩=some (.slice D0 tc.length k0)/\W.cell? ⟨(w.heap.size+1),0,none⟩=some (.slice A2 o.path.length n2)/\W.cell? ⟨(w.heap.size+1),1,none⟩=some (.int .i64 o.act)/\W.cell? ⟨(w.heap.size+1),2,none⟩=some (.string o.s)/\W.cell? ⟨(w.heap.size+1),3,none⟩=some (.int .i64 o.n)):=fun W hW=>by
  obtain⟨hB,hs,rt0,rc0,ro1,rl2,c00,c01,c02,c20,c21,c22,c23⟩:=HX0.out W hW
  exact⟨c00,c01,c02,c20,c21,c22,c23⟩
 have HKR:Hid (∀ W,Below (w.heap.size+2) ((w.alloc (.cells #[.slice A0 t.es.length n0,.slice B0 t.ks.length m0,.slice D0 tc.length k0] 29)).alloc (.cells #[.slice A2 o.path.length n2,.int .i64 o.act,.string o.s,.int .i64 o.n] 59)) W->(Below w.heap.size w W/\t.rd W W.heap.size (.slice A0 t.es.length n0) (.slice B0 t.ks.length m0)/\SlP W W.heap.size 3 SpE (.slice D0 tc.length k0) tc)):=fun W hW=>by
  obtain⟨hB,hs,rt0,rc0,ro1,rl2,c00,c01,c02,c20,c21,c22,c23⟩:=HX0.out W hW
  exact⟨hB,rt0,rc0⟩
 have HM:Hid (∀ W,Below (w.heap.size+2) ((w.alloc (.cells #[.slice A0 t.es.length n0,.slice B0 t.ks.length m0,.slice D0 tc.length k0] 29)).alloc (.cells #[.slice A2 o.path.length n2,.int .i64 o.act,.string o.s,.int .i64 o.n] 59)) W->(w.heap.size+2)<=W.heap.size):=fun W hW=>(HX0.out W hW).2.1
 have HL1:Hid ((([]:List Opr).length+l.length)*56<=140737488355328):=by unfold Hid;simp;omega
 have HL2:Hid (([]:List Opr).length+l.length<=Big):=by unfold Hid Big;simp;omega
 have HL3:Hid ((l.length + [o].length)*56<=140737488355328):=by unfold Hid;simp;omega
 have HL4:Hid (l.length + [o].length<=Big):=by unfold Hid Big;simp;omega
 clear hbig
 go_cut [26] (fun s26 wx=>s26=.bool (!FW)/\Below (w.heap.size+2) ((w.alloc (.cells #[.slice A0 t.es.length n0,.slice B0 t.ks.length m0,.slice D0 tc.length k0] 29)).alloc (.cells #[.slice A2 o.path.length n2,.int .i64 o.act,.string o.s,.int .i64 o.n] 59)) wx)
 case first=>
  go_region_held3 (fun W=>W.cell? ⟨w.heap.size,0,none⟩=some (.slice A0 t.es.length n0)/\W.cell? ⟨w.heap.size,1,none⟩=some (.slice B0 t.ks.length m0)/\W.cell? ⟨w.heap.size,2,none⟩=some (.slice D0 tc.length k0)/\W.cell? ⟨(w.heap.size+1),0,none⟩=some (.slice A2 o.path.length n2)/\W.cell? ⟨(w.heap.size+1),1,none⟩=some (.int .i64 o.act)/\W.cell? ⟨(w.heap.size+1),2,none⟩=some (.string o.s)/\W.cell? ⟨(w.heap.size+1),3,none⟩=some (.int .i64 o.n))
   (first|with_reducible exact HKS.out _ HB7.out|with_reducible exact HKS.out _ HB6m.out|with_reducible exact HKS.out _ HB5m.out|with_reducible exact HKS.out _ HB1.out|exact HKS.out _ (HB6m.out.trans (by go_grown))|exact HKS.out _ (HB5m.out.trans (by go_grown))|exact HKS.out _ (HB1.out.trans (by go_grown))|exact HKS.out _ (by go_grown)|go_keep)
   (first
    |(refine step_dB (.inr rfl) (.tmp 20) (.tmp 22) _ rfl OpA.mon eiOp (by decide) rfl (HO5.out.grow OpA.mon (by go_grown)) rfl (zY6 (o:=o) h2x.out (Nat.le_refl _) (HKR.out _ (HB5m.out.trans (by go_grown))).1 HOK.out (by first|exact Qc rfl|exact (HG5.out.block _ (by first|(simp;done)|(simp;omega)) (by simp[Value.ownBlock])).trans (Qc (by simp))|exact (HG5.out.block _ (by first|(simp;done)|(simp;omega)) (by simp[Value.ownBlock])).trans ((Qg (by simp)).trans (Qc rfl))) (fun b hb e=>by have:=HO5.out.lt b e;omega)) HL3.out HL4.out (by have:=HB5.out.size;first|omega|(simp;omega)) ?_;intro v6 w6 hown6 hb6 hg6 hv6;(have HO6:=hid hown6);(have HB6:Hid (Below w1.heap.size w1 w6):=hid ((HB5.out.trans (by go_grown)).trans hb6));(have hs6:=HB6.out.size);(have HB6m:Hid (Below (w.heap.size+2) ((w.alloc (.cells #[.slice A0 t.es.length n0,.slice B0 t.ks.length m0,.slice D0 tc.length k0] 29)).alloc (.cells #[.slice A2 o.path.length n2,.int .i64 o.act,.string o.s,.int .i64 o.n] 59)) w6):=hid (HB1.out.trans (HB6.out.mono hs1)));(have hsh6:=OwnP.shape hown6);simp only[List.length_append,List.length_singleton]at hsh6;obtain⟨A6,n6,hvv6⟩:=hsh6;subst hvv6;clear hown6 hb6 hg6 hv6)
    |(refine step_dB (v:=.slice (some ⟨w1.heap.size,0,none⟩) 0 0) (.inr rfl) (.tmp 18) (.tmp 19) _ rfl OpA.mon eiOp (by decide) rfl (base:=w1.heap.size) (okp:=fun b=>b<w.heap.size) (xs:=[]) (OwnP.zero (by first|exact Qc rfl|exact Qc (by simp)|exact (Qg (by simp)).trans (Qc rfl)) (by first|exact Nat.le_refl _|(simp;done)|omega)) rfl (opl_src h1x.out (HKR.out _ (HB1.out.trans (by go_grown))).1 (fun b hb=>by intro e;simp[Value.ownBlock]at e;omega)) HL1.out HL2.out (by first|omega|(simp;done)|(simp;omega)) ?_;intro v5 w5 hown5 hb5 hg5 hv5;simp only[List.nil_append]at hown5;(have HO5:=hid hown5);(have HG5:=hid hg5);(have HB5:Hid (Below w1.heap.size w1 w5):=hid (Below.trans (by go_grown) hb5));(have hs5:=HB5.out.size);(have HB5m:Hid (Below (w.heap.size+2) ((w.alloc (.cells #[.slice A0 t.es.length n0,.slice B0 t.ks.length m0,.slice D0 tc.length k0] 29)).alloc (.cells #[.slice A2 o.path.length n2,.int .i64 o.act,.string o.s,.int .i64 o.n] 59)) w5):=hid (HB1.out.trans (HB5.out.mono hs1)));obtain⟨A7,n7,hvv5⟩:=OwnP.shape hown5;subst hvv5;clear hown5 hb5 hg5 hv5)
    |(refine step_dB (v:=.slice (some ⟨w1.heap.size+1,0,none⟩) 0 0) (.inr rfl) (.tmp 18) (.tmp 19) _ rfl OpA.mon eiOp (by decide) rfl (base:=w1.heap.size) (okp:=fun b=>b<w.heap.size) (xs:=[]) (OwnP.zero (by first|exact Qc rfl|exact Qc (by simp)|exact (Qg (by simp)).trans (Qc rfl)) (by first|exact Nat.le_refl _|(simp;done)|omega)) rfl (opl_src h1x.out (HKR.out _ (HB1.out.trans (by go_grown))).1 (fun b hb=>by intro e;simp[Value.ownBlock]at e;omega)) HL1.out HL2.out (by first|omega|(simp;done)|(simp;omega)) ?_;intro v5 w5 hown5 hb5 hg5 hv5;simp only[List.nil_append]at hown5;(have HO5:=hid hown5);(have HG5:=hid hg5);(have HB5:Hid (Below w1.heap.size w1 w5):=hid (Below.trans (by go_grown) hb5));(have hs5:=HB5.out.size);(have HB5m:Hid (Below (w.heap.size+2) ((w.alloc (.cells #[.slice A0 t.es.length n0,.slice B0 t.ks.length m0,.slice D0 tc.length k0] 29)).alloc (.cells #[.slice A2 o.path.length n2,.int .i64 o.act,.string o.s,.int .i64 o.n] 59)) w5):=hid (HB1.out.trans (HB5.out.mono hs1)));obtain⟨A7,n7,hvv5⟩:=OwnP.shape hown5;subst hvv5;clear hown5 hb5 hg5 hv5)
    |(go_at_call 32;go_loud ((refine (KR (t,tc) (l++[o]) _ _ _ _ _ (HKR.out _ (HB6m.out.trans (by go_grown))).2.1 (HKR.out _ (HB6m.out.trans (by go_grown))).2.2 (by have h:=OwnD.opl (HO6.out.grow OpA.mon (by go_grown)) (by simpa using HL4.out);simpa using h)).mono ?_);rw[HFW.out];rintro e w7 ⟨rfl,hb⟩;have HB7:Hid (Below (w.heap.size+2) ((w.alloc (.cells #[.slice A0 t.es.length n0,.slice B0 t.ks.length m0,.slice D0 tc.length k0] 29)).alloc (.cells #[.slice A2 o.path.length n2,.int .i64 o.act,.string o.s,.int .i64 o.n] 59)) w7):=hid ((HB6m.out.trans (by go_grown)).trans (hb.mono (by have:=HM.out _ HB6m.out;first|omega|(simp;omega))));clear hb))
    |(go_at_call 31;go_loud ((refine (Q7 _).mono ?_);rintro e w1 ⟨rfl,hb⟩;have HB1:Hid (Below (w.heap.size+2) ((w.alloc (.cells #[.slice A0 t.es.length n0,.slice B0 t.ks.length m0,.slice D0 tc.length k0] 29)).alloc (.cells #[.slice A2 o.path.length n2,.int .i64 o.act,.string o.s,.int .i64 o.n] 59)) w1):=hid (Below.trans (by go_grown) (hb.mono (by first|omega|(simp;done)|(simp;omega))));have hs1:=HM.out _ HB1.out;clear hb)))
  all_goals
   go_wp2_with fail
   go_meet
   case rel=>exact⟨by first|rfl|simp,HB7.out⟩
 case rest=>
  obtain⟨rfl,hbz⟩:=hcut
  obtain⟨w1,hwz⟩:∃ z:World,z=wc:=⟨wc,rfl⟩
  subst hwz
  have hbk1:=hid hbz
  clear hbz
  clear hB hs rt0 rc0 ro1 rl2 c00 c01 c02 c20 c21 c22 c23
  obtain⟨hB,hs,rt0,rc0,ro1,rl2,c00,c01,c02,c20,c21,c22,c23⟩:=HX0.out _ hbk1.out
  cases FW
  ·skip
   go_wp2_with fail
   refine (Q7 _).mono ?_
   rintro e w2 ⟨rfl,hb⟩
   have hbk2:Hid (Below (w.heap.size+2) ((w.alloc (.cells #[.slice A0 t.es.length n0,.slice B0 t.ks.length m0,.slice D0 tc.length k0] 29)).alloc (.cells #[.slice A2 o.path.length n2,.int .i64 o.act,.string o.s,.int .i64 o.n] 59)) w2):=hid (hbk1.out.trans (hb.mono (by first|omega|(simp;done)|(simp;omega))))
   clear hb
   clear hB hs rt0 rc0 ro1 rl2 c00 c01 c02 c20 c21 c22 c23
   obtain⟨hB,hs,rt0,rc0,ro1,rl2,c00,c01,c02,c20,c21,c22,c23⟩:=HX0.out _ hbk2.out
   go_wp2_with fail
   go_ret
   exact⟨rfl,hB⟩
  ·skip
   have HSZ:Hid ((t.sz<=40/\tc.length<=40)/\(l++[o]).length<=20/\(l++[o]).all QV=true):=by
    have h:=HFW.out
    unfold fewL at h
    simp only[Bool.and_eq_true,decide_eq_true_eq]at h
    exact⟨qYe h.1,h.2.1,h.2.2⟩
   have hz:=HSZ.out.1.1
   have hz2:=HSZ.out.1.2
   have hL:l.length<=20:=by have h:=HSZ.out.2.1;simp at h;omega
   have HSH:Hid (∀ o∈l,QV o=true):=fun o ho=>List.all_eq_true.1 HSZ.out.2.2 o (List.mem_append_left _ ho)
   have hpo:o.path.length<=1000:=by
    have h:=List.all_eq_true.1 HSZ.out.2.2 o (by simp)
    unfold QV at h
    simp only[Bool.and_eq_true,decide_eq_true_eq]at h
    omega
   go_wp2_with fail
   have hpre:=hs
   refine (KU (t,tc) l _ _ _ _ _ rt0 rc0 ro1 hz hz2 hL HSH.out).mono ?_
   rintro e w2 ⟨h,hb⟩
   have hbk2:Hid (Below (w.heap.size+2) ((w.alloc (.cells #[.slice A0 t.es.length n0,.slice B0 t.ks.length m0,.slice D0 tc.length k0] 29)).alloc (.cells #[.slice A2 o.path.length n2,.int .i64 o.act,.string o.s,.int .i64 o.n] 59)) w2):=hid (hbk1.out.trans (hb.mono (by first|omega|(simp;done)|(simp;omega))))
   clear hb
   clear hB hs rt0 rc0 ro1 rl2 c00 c01 c02 c20 c21 c22 c23
   obtain⟨hB,hs,rt0,rc0,ro1,rl2,c00,c01,c02,c20,c21,c22,c23⟩:=HX0.out _ hbk2.out
   rcases h with h|h
   ·skip
    obtain⟨hE,rfl⟩:=h
    go_wp2_with fail
    go_ret
    exact⟨rfl,hB.alloc (by omega) _⟩
   ·skip
    obtain⟨hE,g,okp,v,vo,ge,gk,gc,vr,ne,nk,nc,rfl,hg,hT,hr1,hs1,hr2,hs2,hro⟩:=h
    have HI0:=hid (Xs (t,tc) l)
    have HMEM:=hid (qYh (t,tc) l)
    obtain⟨⟨O,⟨NT,NC⟩⟩,HS⟩:∃ S,Hid (txS (t,tc) l=S):=⟨_,rfl⟩
    rw[HS.out]at hT hr2 hs2 hro HI0 HMEM
    simp only at hT hr1 hs1 hr2 hs2 hro HMEM
    have HOP:Hid (∀ o∈O,o.path.length<=1000):=fun o ho=>by
     have h:=HSH.out o (HMEM.out o ho)
     unfold QV at h
     simp only[Bool.and_eq_true,decide_eq_true_eq]at h
     omega
    have HK:Hid (KOk (t,tc)):=by
     have h:=hE
     unfold begE at h
     split at h
     ·rename_i hr;exact Yj.1 hr
     ·cases h
    have HOWN:Hid (∀ k,k<12->hasC tc (txD k)=false):=by
     intro k hk
     have h:=hE
     unfold begE at h
     split at h
     ·split at h
      ·cases h
      ·rename_i hn
       cases hh:hasC tc (txD k)
       ·rfl
       ·exact absurd (Zz.2 ⟨k,hk,hh⟩) hn
     ·cases h
    have hIl:O.length<=12:=HI0.out.len
    have hfx:=HI0.out.facts HK.out hz hz2
    have HKN:Hid (KOk (NT,NC)):=hid hfx.1
    have hzN:NT.sz<=100:=hfx.2.1
    have hzC:NC.length<=6040:=hfx.2.2
    clear hfx hE
    obtain⟨Ag,ng,Bg,mg,rfl,rfl⟩:=Qk hr1
    obtain⟨Cg,kg,rfl,_⟩:=id hs1
    obtain⟨An,nn,Bn,mn,rfl,rfl⟩:=Qk hr2
    obtain⟨Cn,kn,rfl,_⟩:=id hs2
    obtain⟨Ao,no,rfl,_⟩:=id hro
    have hvo:∀ b,vo.ownBlock=some b->g+1<=b/\b<w2.heap.size:=fun b hb=>OwnD.lt hT.own b hb
    have hlt2816:w.heap.size<w2.heap.size:=by omega
    have hne2816:w.heap.size≠w2.heap.size:=by omega
    have hnr2816:w2.heap.size≠w.heap.size:=by omega
    have hlt2318:(w.heap.size+1)<w2.heap.size:=by omega
    have hne2318:(w.heap.size+1)≠w2.heap.size:=by omega
    have hnr2318:w2.heap.size≠(w.heap.size+1):=by omega
    have hgw:g<w2.heap.size:=hT.lt
    have HX1:Hid (∀ W,Below (w2.heap.size+1) (w2.alloc (.cells #[.slice Ag t.es.length ng,.slice Bg t.ks.length mg,.slice Cg tc.length kg,.slice Ao O.length no,.slice An NT.es.length nn,.slice Bn NT.ks.length mn,.slice Cn NC.length kn] 63)) W->(w2.heap.size+1<=(W).heap.size/\TxB W g okp v vo (t,tc) (NT,NC) O/\t.rd W (W).heap.size (.slice Ag t.es.length ng) (.slice Bg t.ks.length mg)/\SlP W (W).heap.size 3 SpE (.slice Cg tc.length kg) tc/\NT.rd W (W).heap.size (.slice An NT.es.length nn) (.slice Bn NT.ks.length mn)/\SlP W (W).heap.size 3 SpE (.slice Cn NC.length kn) NC/\OpL W (.slice Ao O.length no) O/\(W).cell? ⟨w2.heap.size,0,none⟩=some (.slice Ag t.es.length ng)/\(W).cell? ⟨w2.heap.size,1,none⟩=some (.slice Bg t.ks.length mg)/\(W).cell? ⟨w2.heap.size,2,none⟩=some (.slice Cg tc.length kg)/\(W).cell? ⟨w2.heap.size,3,none⟩=some (.slice Ao O.length no)/\(W).cell? ⟨w2.heap.size,4,none⟩=some (.slice An NT.es.length nn)/\(W).cell? ⟨w2.heap.size,5,none⟩=some (.slice Bn NT.ks.length mn)/\(W).cell? ⟨w2.heap.size,6,none⟩=some (.slice Cn NC.length kn)/\Below w.heap.size w W/\w.heap.size+2<=(W).heap.size/\t.rd W (W).heap.size (.slice A0 t.es.length n0) (.slice B0 t.ks.length m0)/\SlP W (W).heap.size 3 SpE (.slice D0 tc.length k0) tc/\OpL W (.slice A1 l.length n1) l/\SlP W (W).heap.size 1 StE (.slice A2 o.path.length n2) o.path/\(W).cell? ⟨w.heap.size,0,none⟩=some (.slice A0 t.es.length n0)/\(W).cell? ⟨w.heap.size,1,none⟩=some (.slice B0 t.ks.length m0)/\(W).cell? ⟨w.heap.size,2,none⟩=some (.slice D0 tc.length k0)/\(W).cell? ⟨(w.heap.size+1),0,none⟩=some (.slice A2 o.path.length n2)/\(W).cell? ⟨(w.heap.size+1),1,none⟩=some (.int .i64 o.act)/\(W).cell? ⟨(w.heap.size+1),2,none⟩=some (.string o.s)/\(W).cell? ⟨(w.heap.size+1),3,none⟩=some (.int .i64 o.n))):=fun W hW=>by
     have g0:=(hW.block w2.heap.size (by omega)).trans (Qc rfl)
     have hB:Below w2.heap.size w2 W:=((Below.refl _ w2).alloc (Nat.le_refl _) _).trans (hW.mono (by omega))
     exact⟨by have:=hW.size;simpa using this,hT.grow hB,Qi hB hB.size _ _ _ hr1,hs1.imp hB hB.size (fun _ _ _ h=>h),Qi hB hB.size _ _ _ hr2,hs2.imp hB hB.size (fun _ _ _ h=>h),hro.up hB,Qa (i:=0) g0,Qa (i:=1) g0,Qa (i:=2) g0,Qa (i:=3) g0,Qa (i:=4) g0,Qa (i:=5) g0,Qa (i:=6) g0,HX0.out W (hbk2.out.trans (hB.mono (by omega)))⟩
    clear hT hr1 hs1 hr2 hs2 hro
    obtain⟨V0,HV0⟩:∃ q,Hid (readV (NT,NC).1 o.path=q):=⟨_,rfl⟩
    obtain⟨E0,HE0⟩:∃ q,Hid (readI (NT,NC).1 o.path=q):=⟨_,rfl⟩
    go_wp2_with fail
    clear hB hs rt0 rc0 ro1 rl2 c00 c01 c02 c20 c21 c22 c23
    obtain⟨hs_t,rx_t,rt_g,rc_g,rt_n,rc_n,ro_n,c0_t,c1_t,c2_t,c3_t,c4_t,c5_t,c6_t,hB,hs,rt0,rc0,ro1,rl2,c00,c01,c02,c20,c21,c22,c23⟩:=HX1.out _ (Below.refl _ _)
    refine (Jx o.path _ rx_t rl2 (by show NT.sz<=_;omega)).mono ?_
    rw[HV0.out,HE0.out]
    rintro e w3 ⟨vl3,rfl,hsl3,hb⟩
    obtain⟨D3x,k3x,rfl⟩:=hsl3.shape
    have hbk3:Hid (Below (w2.heap.size+1) (w2.alloc (.cells #[.slice Ag t.es.length ng,.slice Bg t.ks.length mg,.slice Cg tc.length kg,.slice Ao O.length no,.slice An NT.es.length nn,.slice Bn NT.ks.length mn,.slice Cn NC.length kn] 63)) w3):=hid (hb.mono (by first|omega|(simp;done)|(simp;omega)))
    clear hb
    clear hs_t rx_t rt_g rc_g rt_n rc_n ro_n c0_t c1_t c2_t c3_t c4_t c5_t c6_t hB hs rt0 rc0 ro1 rl2 c00 c01 c02 c20 c21 c22 c23
    obtain⟨hs_t,rx_t,rt_g,rc_g,rt_n,rc_n,ro_n,c0_t,c1_t,c2_t,c3_t,c4_t,c5_t,c6_t,hB,hs,rt0,rc0,ro1,rl2,c00,c01,c02,c20,c21,c22,c23⟩:=HX1.out _ hbk3.out
    have hlt3816:w.heap.size<w3.heap.size:=by omega
    have hne3816:w.heap.size≠w3.heap.size:=by omega
    have hnr3816:w3.heap.size≠w.heap.size:=by omega
    have hlt3318:(w.heap.size+1)<w3.heap.size:=by omega
    have hne3318:(w.heap.size+1)≠w3.heap.size:=by omega
    have hnr3318:w3.heap.size≠(w.heap.size+1):=by omega
    have hlt3113:w2.heap.size<w3.heap.size:=by omega
    have hne3113:w2.heap.size≠w3.heap.size:=by omega
    have hnr3113:w3.heap.size≠w2.heap.size:=by omega
    have HX2:Hid (∀ W,Below (w3.heap.size+1) (w3.alloc (.cells #[.int .i64 V0.kind,.bool V0.on,.int .i64 V0.n,.slice D3x V0.l.length k3x] 67)) W->(w3.heap.size+1<=(W).heap.size/\SlP W (W).heap.size 1 StE (.slice D3x V0.l.length k3x) V0.l/\(W).cell? ⟨w3.heap.size,0,none⟩=some (.int .i64 V0.kind)/\(W).cell? ⟨w3.heap.size,1,none⟩=some (.bool V0.on)/\(W).cell? ⟨w3.heap.size,2,none⟩=some (.int .i64 V0.n)/\(W).cell? ⟨w3.heap.size,3,none⟩=some (.slice D3x V0.l.length k3x)/\w2.heap.size+1<=(W).heap.size/\TxB W g okp v vo (t,tc) (NT,NC) O/\t.rd W (W).heap.size (.slice Ag t.es.length ng) (.slice Bg t.ks.length mg)/\SlP W (W).heap.size 3 SpE (.slice Cg tc.length kg) tc/\NT.rd W (W).heap.size (.slice An NT.es.length nn) (.slice Bn NT.ks.length mn)/\SlP W (W).heap.size 3 SpE (.slice Cn NC.length kn) NC/\OpL W (.slice Ao O.length no) O/\(W).cell? ⟨w2.heap.size,0,none⟩=some (.slice Ag t.es.length ng)/\(W).cell? ⟨w2.heap.size,1,none⟩=some (.slice Bg t.ks.length mg)/\(W).cell? ⟨w2.heap.size,2,none⟩=some (.slice Cg tc.length kg)/\(W).cell? ⟨w2.heap.size,3,none⟩=some (.slice Ao O.length no)/\(W).cell? ⟨w2.heap.size,4,none⟩=some (.slice An NT.es.length nn)/\(W).cell? ⟨w2.heap.size,5,none⟩=some (.slice Bn NT.ks.length mn)/\(W).cell? ⟨w2.heap.size,6,none⟩=some (.slice Cn NC.length kn)/\Below w.heap.size w W/\w.heap.size+2<=(W).heap.size/\t.rd W (W).heap.size (.slice A0 t.es.length n0) (.slice B0 t.ks.length m0)/\SlP W (W).heap.size 3 SpE (.slice D0 tc.length k0) tc/\OpL W (.slice A1 l.length n1) l/\SlP W (W).heap.size 1 StE (.slice A2 o.path.length n2) o.path/\(W).cell? ⟨w.heap.size,0,none⟩=some (.slice A0 t.es.length n0)/\(W).cell? ⟨w.heap.size,1,none⟩=some (.slice B0 t.ks.length m0)/\(W).cell? ⟨w.heap.size,2,none⟩=some (.slice D0 tc.length k0)/\(W).cell? ⟨(w.heap.size+1),0,none⟩=some (.slice A2 o.path.length n2)/\(W).cell? ⟨(w.heap.size+1),1,none⟩=some (.int .i64 o.act)/\(W).cell? ⟨(w.heap.size+1),2,none⟩=some (.string o.s)/\(W).cell? ⟨(w.heap.size+1),3,none⟩=some (.int .i64 o.n))):=fun W hW=>by
     have g0:=(hW.block w3.heap.size (by omega)).trans (Qc rfl)
     have hB:Below w3.heap.size w3 W:=((Below.refl _ w3).alloc (Nat.le_refl _) _).trans (hW.mono (by omega))
     exact⟨by have:=hW.size;simpa using this,hsl3.slp (fun b hb=>hb.2) hB,Qa (i:=0) g0,Qa (i:=1) g0,Qa (i:=2) g0,Qa (i:=3) g0,HX1.out W (hbk3.out.trans (hB.mono (by omega)))⟩
    clear hsl3
    go_wp2_with fail
    clear hs_t rx_t rt_g rc_g rt_n rc_n ro_n c0_t c1_t c2_t c3_t c4_t c5_t c6_t hB hs rt0 rc0 ro1 rl2 c00 c01 c02 c20 c21 c22 c23
    obtain⟨hs_a,rl_a,c0_a,c1_a,c2_a,c3_a,hs_t,rx_t,rt_g,rc_g,rt_n,rc_n,ro_n,c0_t,c1_t,c2_t,c3_t,c4_t,c5_t,c6_t,hB,hs,rt0,rc0,ro1,rl2,c00,c01,c02,c20,c21,c22,c23⟩:=HX2.out _ (Below.refl _ _)
    have HPA:Hid (SlA ((w3.alloc (.cells #[.int .i64 V0.kind,.bool V0.on,.int .i64 V0.n,.slice D3x V0.l.length k3x] 67))) (fun b=>b≠g/\b<((w3.alloc (.cells #[.int .i64 V0.kind,.bool V0.on,.int .i64 V0.n,.slice D3x V0.l.length k3x] 67))).heap.size/\vo.ownBlock≠some b) 1 StE (.slice A2 o.path.length n2) o.path):=(Zn.1 h2x.out).up (fun b hb=>hB.block b hb) (fun b hb=>⟨by omega,by have:=hB.size;omega,fun e=>by have:=hvo b e;omega⟩) (fun _ _ _ h=>h)
    have HBC:=hid hB
    have HCC:=hid (And.intro c20 (And.intro c21 (And.intro c22 (And.intro c23 (And.intro c0_a (And.intro c1_a (And.intro c2_a c3_a)))))))
    have hSW:w3.heap.size<((w3.alloc (.cells #[.int .i64 V0.kind,.bool V0.on,.int .i64 V0.n,.slice D3x V0.l.length k3x] 67))).heap.size:=by first|omega|(simp;done)|(simp;omega)
    refine (qKd o _ _ rx_t HKN.out (by show NT.sz<=_;omega) (by show NC.length<=_;omega) hIl HPA.out HOK.out hpo).mono ?_
    rintro e wd hD
    obtain⟨D,HDI⟩:∃ q,Hid (doI (NT,NC) O.length o=q):=⟨_,rfl⟩
    have hret:=hD.ret
    rw[HDI.out]at hret
    subst hret
    have HBw:Hid (Below w.heap.size w wd):=HBC.out.trans (hD.below.mono (by omega))
    have eo:wd.heap[w.heap.size+1]?=((w3.alloc (.cells #[.int .i64 V0.kind,.bool V0.on,.int .i64 V0.n,.slice D3x V0.l.length k3x] 67))).heap[w.heap.size+1]?:=hD.below.block _ (by omega)
    have ea:wd.heap[w3.heap.size]?=((w3.alloc (.cells #[.int .i64 V0.kind,.bool V0.on,.int .i64 V0.n,.slice D3x V0.l.length k3x] 67))).heap[w3.heap.size]?:=hD.keep _ hSW (by omega) (fun e=>by have:=hvo _ e;omega)
    obtain⟨v2,vo2,hT2,_,_⟩:=hD.st
    have hsd:((w3.alloc (.cells #[.int .i64 V0.kind,.bool V0.on,.int .i64 V0.n,.slice D3x V0.l.length k3x] 67))).heap.size<=wd.heap.size:=hD.below.size
    have hlo:w.heap.size+1<wd.heap.size:=by omega
    have hla:w3.heap.size<wd.heap.size:=by omega
    clear hs_a rl_a c0_a c1_a c2_a c3_a hs_t rx_t rt_g rc_g rt_n rc_n ro_n c0_t c1_t c2_t c3_t c4_t c5_t c6_t hB hs rt0 rc0 ro1 rl2 c00 c01 c02 c20 c21 c22 c23
    have HX3:Hid (∀ W,Below wd.heap.size wd W->(Below w.heap.size w W/\wd.heap.size<=(W).heap.size/\TxB W g (fun b=>okp b∨((w3.alloc (.cells #[.int .i64 V0.kind,.bool V0.on,.int .i64 V0.n,.slice D3x V0.l.length k3x] 67))).heap.size<=b) v2 vo2 (t,tc) (doK (NT,NC) O.length o) (doO (NT,NC) O o)/\SlP W (W).heap.size 1 StE (.slice A2 o.path.length n2) o.path/\(W).cell? ⟨(w.heap.size+1),0,none⟩=some (.slice A2 o.path.length n2)/\(W).cell? ⟨(w.heap.size+1),1,none⟩=some (.int .i64 o.act)/\(W).cell? ⟨(w.heap.size+1),2,none⟩=some (.string o.s)/\(W).cell? ⟨(w.heap.size+1),3,none⟩=some (.int .i64 o.n)/\(W).cell? ⟨w3.heap.size,0,none⟩=some (.int .i64 V0.kind)/\(W).cell? ⟨w3.heap.size,1,none⟩=some (.bool V0.on)/\(W).cell? ⟨w3.heap.size,2,none⟩=some (.int .i64 V0.n)/\(W).cell? ⟨w3.heap.size,3,none⟩=some (.slice D3x V0.l.length k3x))):=fun W hW=>by
     have hBW:Below w.heap.size w W:=HBw.out.trans (hW.mono (by have:=HBw.out.size;omega))
     obtain⟨b0,b1,b2,b3,a0,a1,a2,a3⟩:=HCC.out
     exact⟨hBW,hW.size,hT2.grow hW,h2x.out.imp hBW hBW.size (fun _ _ _ h=>h),(World.cell?_of_block ((hW.block _ hlo).trans eo)).trans b0,(World.cell?_of_block ((hW.block _ hlo).trans eo)).trans b1,(World.cell?_of_block ((hW.block _ hlo).trans eo)).trans b2,(World.cell?_of_block ((hW.block _ hlo).trans eo)).trans b3,(World.cell?_of_block ((hW.block _ hla).trans ea)).trans a0,(World.cell?_of_block ((hW.block _ hla).trans ea)).trans a1,(World.cell?_of_block ((hW.block _ hla).trans ea)).trans a2,(World.cell?_of_block ((hW.block _ hla).trans ea)).trans a3⟩
    have HD:=hid hD
    clear hD hT2 eo ea
    obtain⟨hB,hs_d,rx_t,rl2,c20,c21,c22,c23,c0_a,c1_a,c2_a,c3_a⟩:=HX3.out _ (Below.refl _ _)
    by_cases hD0:D=0
    ·skip
     subst hD0
     have hk:doK (NT,NC) O.length o=aftK (NT,NC) o (txD O.length):=if_pos HDI.out
     have hlt12:O.length<12:=by
      have h:=HDI.out
      unfold doI at h
      split at h
      ·cases h
      ·omega
     have hap:appI (NT,NC).1 o (txD O.length)=0:=by
      have h:=HDI.out
      unfold doI at h
      rw[if_neg (by omega)]at h
      exact h
     have HOO:=hid (Kv hap).2.1
     have hnw:=tx_new HK.out hz HI0.out HOWN.out hlt12
     have HSE:=hid (sees_plain HKN.out hap hnw)
     have hf2:=(HI0.out.step o).facts HK.out hz hz2
     have HR0:=hid (read_of HKN.out HOO.out.path).1
     have HR1:=hid (read_of hf2.1 HOO.out.path).1
     have hzs:(doK (NT,NC) O.length o).1.sz<=100:=hf2.2.1
     have h00:E0=0:=HE0.out.symm.trans HR0.out
     subst h00
     obtain⟨V1,HV1⟩:∃ q,Hid (readV (doK (NT,NC) O.length o).1 o.path=q):=⟨_,rfl⟩
     have HE1:Hid (readI (doK (NT,NC) O.length o).1 o.path=0):=HR1.out
     have HS2:Hid ((o.act=1->V1.on=true)/\(o.act=2->V1.on=false)/\(o.act=3->o.s∈V1.l)/\(o.act=4->o.s∉V1.l)/\(o.act=5->V1.n=wrap64 (V0.n+o.n))/\(o.act=6->V1.l=[o.s])/\(o.act=7->V1.on=false/\V1.l=[]/\V1.n=0)):=by
      have h:=HSE.out
      rw[←hk,HV1.out,HV0.out]at h
      exact h
     clear hap hnw hf2 hk
     have HA7:=hid (act_seven HOO.out)
     rcases HA7.out with ha|ha|ha|ha|ha|ha|ha
     ·skip
      have e1:(o.act==1)=true:=by simp[ha]
      have f1:decide (o.act=1)=true:=by simp[ha]
      have e2:(o.act==2)=false:=by simp[ha]
      have f2:decide (o.act=2)=false:=by simp[ha]
      have e3:(o.act==3)=false:=by simp[ha]
      have f3:decide (o.act=3)=false:=by simp[ha]
      have e4:(o.act==4)=false:=by simp[ha]
      have f4:decide (o.act=4)=false:=by simp[ha]
      have e5:(o.act==5)=false:=by simp[ha]
      have f5:decide (o.act=5)=false:=by simp[ha]
      have e6:(o.act==6)=false:=by simp[ha]
      have f6:decide (o.act=6)=false:=by simp[ha]
      have e7:(o.act==7)=false:=by simp[ha]
      have f7:decide (o.act=7)=false:=by simp[ha]
      have hq:=HS2.out.1 ha
      obtain⟨vk,von,vn,vls⟩:=V1
      simp only at hq
      subst hq
      clear ha
      go_wp2_with fail
      refine (Jx o.path _ rx_t rl2 (by omega)).mono ?_
      rw[HV1.out,HE1.out]
      rintro e w4 ⟨vl4,rfl,hsl4,hb⟩
      dsimp only at hsl4 ⊢
      obtain⟨D4x,k4x,rfl⟩:=hsl4.shape
      have hbk4:Hid (Below wd.heap.size wd w4):=hid (hb.mono (by first|omega|(simp;done)|(simp;omega)))
      clear hb
      clear hB hs_d rx_t rl2 c20 c21 c22 c23 c0_a c1_a c2_a c3_a
      obtain⟨hB,hs_d,rx_t,rl2,c20,c21,c22,c23,c0_a,c1_a,c2_a,c3_a⟩:=HX3.out _ hbk4.out
      have hlt4318:(w.heap.size+1)<w4.heap.size:=by omega
      have hne4318:(w.heap.size+1)≠w4.heap.size:=by omega
      have hnr4318:w4.heap.size≠(w.heap.size+1):=by omega
      have hlt430:w3.heap.size<w4.heap.size:=by omega
      have hne430:w3.heap.size≠w4.heap.size:=by omega
      have hnr430:w4.heap.size≠w3.heap.size:=by omega
      have HX4:Hid (∀ W,Below (w4.heap.size+1) (w4.alloc (.cells #[.int .i64 vk,.bool true,.int .i64 vn,.slice D4x vls.length k4x] 67)) W->(w4.heap.size+1<=(W).heap.size/\SlP W (W).heap.size 1 StE (.slice D4x vls.length k4x) vls/\(W).cell? ⟨w4.heap.size,0,none⟩=some (.int .i64 vk)/\(W).cell? ⟨w4.heap.size,1,none⟩=some (.bool true)/\(W).cell? ⟨w4.heap.size,2,none⟩=some (.int .i64 vn)/\(W).cell? ⟨w4.heap.size,3,none⟩=some (.slice D4x vls.length k4x)/\Below w.heap.size w W/\wd.heap.size<=(W).heap.size/\TxB W g (fun b=>okp b∨((w3.alloc (.cells #[.int .i64 V0.kind,.bool V0.on,.int .i64 V0.n,.slice D3x V0.l.length k3x] 67))).heap.size<=b) v2 vo2 (t,tc) (doK (NT,NC) O.length o) (doO (NT,NC) O o)/\SlP W (W).heap.size 1 StE (.slice A2 o.path.length n2) o.path/\(W).cell? ⟨(w.heap.size+1),0,none⟩=some (.slice A2 o.path.length n2)/\(W).cell? ⟨(w.heap.size+1),1,none⟩=some (.int .i64 o.act)/\(W).cell? ⟨(w.heap.size+1),2,none⟩=some (.string o.s)/\(W).cell? ⟨(w.heap.size+1),3,none⟩=some (.int .i64 o.n)/\(W).cell? ⟨w3.heap.size,0,none⟩=some (.int .i64 V0.kind)/\(W).cell? ⟨w3.heap.size,1,none⟩=some (.bool V0.on)/\(W).cell? ⟨w3.heap.size,2,none⟩=some (.int .i64 V0.n)/\(W).cell? ⟨w3.heap.size,3,none⟩=some (.slice D3x V0.l.length k3x))):=fun W hW=>by
       have g0:=(hW.block w4.heap.size (by omega)).trans (Qc rfl)
       have hB:Below w4.heap.size w4 W:=((Below.refl _ w4).alloc (Nat.le_refl _) _).trans (hW.mono (by omega))
       exact⟨by have:=hW.size;simpa using this,hsl4.slp (fun b hb=>hb.2) hB,Qa (i:=0) g0,Qa (i:=1) g0,Qa (i:=2) g0,Qa (i:=3) g0,HX3.out W (hbk4.out.trans (hB.mono (by omega)))⟩
      clear hsl4
      go_upto_region 15 with (fail)
      clear hB hs_d rx_t rl2 c20 c21 c22 c23 c0_a c1_a c2_a c3_a
      obtain⟨hs_b,rl_b,c0_b,c1_b,c2_b,c3_b,hB,hs_d,rx_t,rl2,c20,c21,c22,c23,c0_a,c1_a,c2_a,c3_a⟩:=HX4.out _ (Below.refl _ _)
      go_wp2_with fail
      go_ret
      exact⟨by first|rfl|simp,hB⟩
     ·skip
      have e1:(o.act==1)=false:=by simp[ha]
      have f1:decide (o.act=1)=false:=by simp[ha]
      have e2:(o.act==2)=true:=by simp[ha]
      have f2:decide (o.act=2)=true:=by simp[ha]
      have e3:(o.act==3)=false:=by simp[ha]
      have f3:decide (o.act=3)=false:=by simp[ha]
      have e4:(o.act==4)=false:=by simp[ha]
      have f4:decide (o.act=4)=false:=by simp[ha]
      have e5:(o.act==5)=false:=by simp[ha]
      have f5:decide (o.act=5)=false:=by simp[ha]
      have e6:(o.act==6)=false:=by simp[ha]
      have f6:decide (o.act=6)=false:=by simp[ha]
      have e7:(o.act==7)=false:=by simp[ha]
      have f7:decide (o.act=7)=false:=by simp[ha]
      have hq:=HS2.out.2.1 ha
      obtain⟨vk,von,vn,vls⟩:=V1
      simp only at hq
      subst hq
      clear ha
      go_wp2_with fail
      refine (Jx o.path _ rx_t rl2 (by omega)).mono ?_
      rw[HV1.out,HE1.out]
      rintro e w4 ⟨vl4,rfl,hsl4,hb⟩
      dsimp only at hsl4 ⊢
      obtain⟨D4x,k4x,rfl⟩:=hsl4.shape
      have hbk4:Hid (Below wd.heap.size wd w4):=hid (hb.mono (by first|omega|(simp;done)|(simp;omega)))
      clear hb
      clear hB hs_d rx_t rl2 c20 c21 c22 c23 c0_a c1_a c2_a c3_a
      obtain⟨hB,hs_d,rx_t,rl2,c20,c21,c22,c23,c0_a,c1_a,c2_a,c3_a⟩:=HX3.out _ hbk4.out
      have hlt4318:(w.heap.size+1)<w4.heap.size:=by omega
      have hne4318:(w.heap.size+1)≠w4.heap.size:=by omega
      have hnr4318:w4.heap.size≠(w.heap.size+1):=by omega
      have hlt430:w3.heap.size<w4.heap.size:=by omega
      have hne430:w3.heap.size≠w4.heap.size:=by omega
      have hnr430:w4.heap.size≠w3.heap.size:=by omega
      have HX4:Hid (∀ W,Below (w4.heap.size+1) (w4.alloc (.cells #[.int .i64 vk,.bool false,.int .i64 vn,.slice D4x vls.length k4x] 67)) W->(w4.heap.size+1<=(W).heap.size/\SlP W (W).heap.size 1 StE (.slice D4x vls.length k4x) vls/\(W).cell? ⟨w4.heap.size,0,none⟩=some (.int .i64 vk)/\(W).cell? ⟨w4.heap.size,1,none⟩=some (.bool false)/\(W).cell? ⟨w4.heap.size,2,none⟩=some (.int .i64 vn)/\(W).cell? ⟨w4.heap.size,3,none⟩=some (.slice D4x vls.length k4x)/\Below w.heap.size w W/\wd.heap.size<=(W).heap.size/\TxB W g (fun b=>okp b∨((w3.alloc (.cells #[.int .i64 V0.kind,.bool V0.on,.int .i64 V0.n,.slice D3x V0.l.length k3x] 67))).heap.size<=b) v2 vo2 (t,tc) (doK (NT,NC) O.length o) (doO (NT,NC) O o)/\SlP W (W).heap.size 1 StE (.slice A2 o.path.length n2) o.path/\(W).cell? ⟨(w.heap.size+1),0,none⟩=some (.slice A2 o.path.length n2)/\(W).cell? ⟨(w.heap.size+1),1,none⟩=some (.int .i64 o.act)/\(W).cell? ⟨(w.heap.size+1),2,none⟩=some (.string o.s)/\(W).cell? ⟨(w.heap.size+1),3,none⟩=some (.int .i64 o.n)/\(W).cell? ⟨w3.heap.size,0,none⟩=some (.int .i64 V0.kind)/\(W).cell? ⟨w3.heap.size,1,none⟩=some (.bool V0.on)/\(W).cell? ⟨w3.heap.size,2,none⟩=some (.int .i64 V0.n)/\(W).cell? ⟨w3.heap.size,3,none⟩=some (.slice D3x V0.l.length k3x))):=fun W hW=>by
       have g0:=(hW.block w4.heap.size (by omega)).trans (Qc rfl)
       have hB:Below w4.heap.size w4 W:=((Below.refl _ w4).alloc (Nat.le_refl _) _).trans (hW.mono (by omega))
       exact⟨by have:=hW.size;simpa using this,hsl4.slp (fun b hb=>hb.2) hB,Qa (i:=0) g0,Qa (i:=1) g0,Qa (i:=2) g0,Qa (i:=3) g0,HX3.out W (hbk4.out.trans (hB.mono (by omega)))⟩
      clear hsl4
      go_upto_region 15 with (fail)
      clear hB hs_d rx_t rl2 c20 c21 c22 c23 c0_a c1_a c2_a c3_a
      obtain⟨hs_b,rl_b,c0_b,c1_b,c2_b,c3_b,hB,hs_d,rx_t,rl2,c20,c21,c22,c23,c0_a,c1_a,c2_a,c3_a⟩:=HX4.out _ (Below.refl _ _)
      go_wp2_with fail
      go_ret
      exact⟨by first|rfl|simp,hB⟩
     ·skip
      have e1:(o.act==1)=false:=by simp[ha]
      have f1:decide (o.act=1)=false:=by simp[ha]
      have e2:(o.act==2)=false:=by simp[ha]
      have f2:decide (o.act=2)=false:=by simp[ha]
      have e3:(o.act==3)=true:=by simp[ha]
      have f3:decide (o.act=3)=true:=by simp[ha]
      have e4:(o.act==4)=false:=by simp[ha]
      have f4:decide (o.act=4)=false:=by simp[ha]
      have e5:(o.act==5)=false:=by simp[ha]
      have f5:decide (o.act=5)=false:=by simp[ha]
      have e6:(o.act==6)=false:=by simp[ha]
      have f6:decide (o.act=6)=false:=by simp[ha]
      have e7:(o.act==7)=false:=by simp[ha]
      have f7:decide (o.act=7)=false:=by simp[ha]
      have hq:=HS2.out.2.2.1 ha
      obtain⟨vk,von,vn,vls⟩:=V1
      simp only at hq
      have HH:Hid ((vls.any fun x=>decide (x=o.s))=true):=any_mem1 hq
      clear hq
      clear ha
      go_wp2_with fail
      refine (Jx o.path _ rx_t rl2 (by omega)).mono ?_
      rw[HV1.out,HE1.out]
      rintro e w4 ⟨vl4,rfl,hsl4,hb⟩
      dsimp only at hsl4 ⊢
      obtain⟨D4x,k4x,rfl⟩:=hsl4.shape
      have hbk4:Hid (Below wd.heap.size wd w4):=hid (hb.mono (by first|omega|(simp;done)|(simp;omega)))
      clear hb
      clear hB hs_d rx_t rl2 c20 c21 c22 c23 c0_a c1_a c2_a c3_a
      obtain⟨hB,hs_d,rx_t,rl2,c20,c21,c22,c23,c0_a,c1_a,c2_a,c3_a⟩:=HX3.out _ hbk4.out
      have hlt4318:(w.heap.size+1)<w4.heap.size:=by omega
      have hne4318:(w.heap.size+1)≠w4.heap.size:=by omega
      have hnr4318:w4.heap.size≠(w.heap.size+1):=by omega
      have hlt430:w3.heap.size<w4.heap.size:=by omega
      have hne430:w3.heap.size≠w4.heap.size:=by omega
      have hnr430:w4.heap.size≠w3.heap.size:=by omega
      have HX4:Hid (∀ W,Below (w4.heap.size+1) (w4.alloc (.cells #[.int .i64 vk,.bool von,.int .i64 vn,.slice D4x vls.length k4x] 67)) W->(w4.heap.size+1<=(W).heap.size/\SlP W (W).heap.size 1 StE (.slice D4x vls.length k4x) vls/\(W).cell? ⟨w4.heap.size,0,none⟩=some (.int .i64 vk)/\(W).cell? ⟨w4.heap.size,1,none⟩=some (.bool von)/\(W).cell? ⟨w4.heap.size,2,none⟩=some (.int .i64 vn)/\(W).cell? ⟨w4.heap.size,3,none⟩=some (.slice D4x vls.length k4x)/\Below w.heap.size w W/\wd.heap.size<=(W).heap.size/\TxB W g (fun b=>okp b∨((w3.alloc (.cells #[.int .i64 V0.kind,.bool V0.on,.int .i64 V0.n,.slice D3x V0.l.length k3x] 67))).heap.size<=b) v2 vo2 (t,tc) (doK (NT,NC) O.length o) (doO (NT,NC) O o)/\SlP W (W).heap.size 1 StE (.slice A2 o.path.length n2) o.path/\(W).cell? ⟨(w.heap.size+1),0,none⟩=some (.slice A2 o.path.length n2)/\(W).cell? ⟨(w.heap.size+1),1,none⟩=some (.int .i64 o.act)/\(W).cell? ⟨(w.heap.size+1),2,none⟩=some (.string o.s)/\(W).cell? ⟨(w.heap.size+1),3,none⟩=some (.int .i64 o.n)/\(W).cell? ⟨w3.heap.size,0,none⟩=some (.int .i64 V0.kind)/\(W).cell? ⟨w3.heap.size,1,none⟩=some (.bool V0.on)/\(W).cell? ⟨w3.heap.size,2,none⟩=some (.int .i64 V0.n)/\(W).cell? ⟨w3.heap.size,3,none⟩=some (.slice D3x V0.l.length k3x))):=fun W hW=>by
       have g0:=(hW.block w4.heap.size (by omega)).trans (Qc rfl)
       have hB:Below w4.heap.size w4 W:=((Below.refl _ w4).alloc (Nat.le_refl _) _).trans (hW.mono (by omega))
       exact⟨by have:=hW.size;simpa using this,hsl4.slp (fun b hb=>hb.2) hB,Qa (i:=0) g0,Qa (i:=1) g0,Qa (i:=2) g0,Qa (i:=3) g0,HX3.out W (hbk4.out.trans (hB.mono (by omega)))⟩
      clear hsl4
      go_upto_region 18 with (fail)
      clear hB hs_d rx_t rl2 c20 c21 c22 c23 c0_a c1_a c2_a c3_a
      obtain⟨hs_b,rl_b,c0_b,c1_b,c2_b,c3_b,hB,hs_d,rx_t,rl2,c20,c21,c22,c23,c0_a,c1_a,c2_a,c3_a⟩:=HX4.out _ (Below.refl _ _)
      have hsz1:(w4.heap.size+1)<=((w4.alloc (.cells #[.int .i64 vk,.bool von,.int .i64 vn,.slice D4x vls.length k4x] 67))).heap.size:=(by first|omega|(simp;done)|(simp;omega))
      have Hrl_b_1:Hid (∀ W,Below (w4.heap.size+1) (w4.alloc (.cells #[.int .i64 vk,.bool von,.int .i64 vn,.slice D4x vls.length k4x] 67)) W->SlP W (W).heap.size 1 StE (.slice D4x vls.length k4x) vls):=fun W hW=>by
       obtain⟨_,z,_,_,_,_,_,_,_,_,_,_,_,_,_,_,_,_⟩:=HX4.out W hW
       exact z
      have Hrx_t_1:Hid (∀ W,Below (w4.heap.size+1) (w4.alloc (.cells #[.int .i64 vk,.bool von,.int .i64 vn,.slice D4x vls.length k4x] 67)) W->TxB W g (fun b=>okp b∨((w3.alloc (.cells #[.int .i64 V0.kind,.bool V0.on,.int .i64 V0.n,.slice D3x V0.l.length k3x] 67))).heap.size<=b) v2 vo2 (t,tc) (doK (NT,NC) O.length o) (doO (NT,NC) O o)):=fun W hW=>by
       obtain⟨_,_,_,_,_,_,_,_,z,_,_,_,_,_,_,_,_,_⟩:=HX4.out W hW
       exact z
      have Hrl2_1:Hid (∀ W,Below (w4.heap.size+1) (w4.alloc (.cells #[.int .i64 vk,.bool von,.int .i64 vn,.slice D4x vls.length k4x] 67)) W->SlP W (W).heap.size 1 StE (.slice A2 o.path.length n2) o.path):=fun W hW=>by
       obtain⟨_,_,_,_,_,_,_,_,_,z,_,_,_,_,_,_,_,_⟩:=HX4.out W hW
       exact z
      have HQ1_0:=hid (fun (wf:World) (hbf:Below ((w4.alloc (.cells #[.int .i64 vk,.bool von,.int .i64 vn,.slice D4x vls.length k4x] 67))).heap.size (w4.alloc (.cells #[.int .i64 vk,.bool von,.int .i64 vn,.slice D4x vls.length k4x] 67)) wf)=>Calls.boolEq (has20_any vls o.s _ wf (Hrl_b_1.out _ ((Below.refl _ _).trans (hbf.mono hsz1)))) HH.out)
      have f_c3_b:=Qh (B:=((w4.alloc (.cells #[.int .i64 vk,.bool von,.int .i64 vn,.slice D4x vls.length k4x] 67))).heap.size) c3_b (by first|omega|(simp;done)|(simp;omega))
      have f_c21:=Qh (B:=((w4.alloc (.cells #[.int .i64 vk,.bool von,.int .i64 vn,.slice D4x vls.length k4x] 67))).heap.size) c21 (by first|omega|(simp;done)|(simp;omega))
      have f_c22:=Qh (B:=((w4.alloc (.cells #[.int .i64 vk,.bool von,.int .i64 vn,.slice D4x vls.length k4x] 67))).heap.size) c22 (by first|omega|(simp;done)|(simp;omega))
      clear hs_b rl_b c0_b c1_b c2_b c3_b hB hs_d rx_t rl2 c20 c21 c22 c23 c0_a c1_a c2_a c3_a
      refine Qd ((w4.alloc (.cells #[.int .i64 vk,.bool von,.int .i64 vn,.slice D4x vls.length k4x] 67))).heap.size (by kernel_rfl) (by kernel_rfl) ?_
      repeat (go_big_quiet_step (first|(go_at_call 36;with_reducible exact Calls.far_all (Nat.le_refl _) HQ1_0.out)))
      refine wpQuiet_nil ?_
      intro w5 hb
      clear f_c3_b f_c21 f_c22
      have hbk5:Hid (Below (w4.heap.size+1) (w4.alloc (.cells #[.int .i64 vk,.bool von,.int .i64 vn,.slice D4x vls.length k4x] 67)) w5):=hid ((Below.refl _ _).trans (hb.mono hsz1))
      clear hb
      obtain⟨hs_b,rl_b,c0_b,c1_b,c2_b,c3_b,hB,hs_d,rx_t,rl2,c20,c21,c22,c23,c0_a,c1_a,c2_a,c3_a⟩:=HX4.out _ hbk5.out
      go_wp2_with fail
      go_ret
      exact⟨by first|rfl|simp,hB⟩
     ·skip
      have e1:(o.act==1)=false:=by simp[ha]
      have f1:decide (o.act=1)=false:=by simp[ha]
      have e2:(o.act==2)=false:=by simp[ha]
      have f2:decide (o.act=2)=false:=by simp[ha]
      have e3:(o.act==3)=false:=by simp[ha]
      have f3:decide (o.act=3)=false:=by simp[ha]
      have e4:(o.act==4)=true:=by simp[ha]
      have f4:decide (o.act=4)=true:=by simp[ha]
      have e5:(o.act==5)=false:=by simp[ha]
      have f5:decide (o.act=5)=false:=by simp[ha]
      have e6:(o.act==6)=false:=by simp[ha]
      have f6:decide (o.act=6)=false:=by simp[ha]
      have e7:(o.act==7)=false:=by simp[ha]
      have f7:decide (o.act=7)=false:=by simp[ha]
      have hq:=HS2.out.2.2.2.1 ha
      obtain⟨vk,von,vn,vls⟩:=V1
      simp only at hq
      have HH:Hid ((vls.any fun x=>decide (x=o.s))=false):=any_mem0 hq
      clear hq
      clear ha
      go_wp2_with fail
      refine (Jx o.path _ rx_t rl2 (by omega)).mono ?_
      rw[HV1.out,HE1.out]
      rintro e w4 ⟨vl4,rfl,hsl4,hb⟩
      dsimp only at hsl4 ⊢
      obtain⟨D4x,k4x,rfl⟩:=hsl4.shape
      have hbk4:Hid (Below wd.heap.size wd w4):=hid (hb.mono (by first|omega|(simp;done)|(simp;omega)))
      clear hb
      clear hB hs_d rx_t rl2 c20 c21 c22 c23 c0_a c1_a c2_a c3_a
      obtain⟨hB,hs_d,rx_t,rl2,c20,c21,c22,c23,c0_a,c1_a,c2_a,c3_a⟩:=HX3.out _ hbk4.out
      have hlt4318:(w.heap.size+1)<w4.heap.size:=by omega
      have hne4318:(w.heap.size+1)≠w4.heap.size:=by omega
      have hnr4318:w4.heap.size≠(w.heap.size+1):=by omega
      have hlt430:w3.heap.size<w4.heap.size:=by omega
      have hne430:w3.heap.size≠w4.heap.size:=by omega
      have hnr430:w4.heap.size≠w3.heap.size:=by omega
      have HX4:Hid (∀ W,Below (w4.heap.size+1) (w4.alloc (.cells #[.int .i64 vk,.bool von,.int .i64 vn,.slice D4x vls.length k4x] 67)) W->(w4.heap.size+1<=(W).heap.size/\SlP W (W).heap.size 1 StE (.slice D4x vls.length k4x) vls/\(W).cell? ⟨w4.heap.size,0,none⟩=some (.int .i64 vk)/\(W).cell? ⟨w4.heap.size,1,none⟩=some (.bool von)/\(W).cell? ⟨w4.heap.size,2,none⟩=some (.int .i64 vn)/\(W).cell? ⟨w4.heap.size,3,none⟩=some (.slice D4x vls.length k4x)/\Below w.heap.size w W/\wd.heap.size<=(W).heap.size/\TxB W g (fun b=>okp b∨((w3.alloc (.cells #[.int .i64 V0.kind,.bool V0.on,.int .i64 V0.n,.slice D3x V0.l.length k3x] 67))).heap.size<=b) v2 vo2 (t,tc) (doK (NT,NC) O.length o) (doO (NT,NC) O o)/\SlP W (W).heap.size 1 StE (.slice A2 o.path.length n2) o.path/\(W).cell? ⟨(w.heap.size+1),0,none⟩=some (.slice A2 o.path.length n2)/\(W).cell? ⟨(w.heap.size+1),1,none⟩=some (.int .i64 o.act)/\(W).cell? ⟨(w.heap.size+1),2,none⟩=some (.string o.s)/\(W).cell? ⟨(w.heap.size+1),3,none⟩=some (.int .i64 o.n)/\(W).cell? ⟨w3.heap.size,0,none⟩=some (.int .i64 V0.kind)/\(W).cell? ⟨w3.heap.size,1,none⟩=some (.bool V0.on)/\(W).cell? ⟨w3.heap.size,2,none⟩=some (.int .i64 V0.n)/\(W).cell? ⟨w3.heap.size,3,none⟩=some (.slice D3x V0.l.length k3x))):=fun W hW=>by
       have g0:=(hW.block w4.heap.size (by omega)).trans (Qc rfl)
       have hB:Below w4.heap.size w4 W:=((Below.refl _ w4).alloc (Nat.le_refl _) _).trans (hW.mono (by omega))
       exact⟨by have:=hW.size;simpa using this,hsl4.slp (fun b hb=>hb.2) hB,Qa (i:=0) g0,Qa (i:=1) g0,Qa (i:=2) g0,Qa (i:=3) g0,HX3.out W (hbk4.out.trans (hB.mono (by omega)))⟩
      clear hsl4
      go_upto_region 18 with (fail)
      clear hB hs_d rx_t rl2 c20 c21 c22 c23 c0_a c1_a c2_a c3_a
      obtain⟨hs_b,rl_b,c0_b,c1_b,c2_b,c3_b,hB,hs_d,rx_t,rl2,c20,c21,c22,c23,c0_a,c1_a,c2_a,c3_a⟩:=HX4.out _ (Below.refl _ _)
      have hsz1:(w4.heap.size+1)<=((w4.alloc (.cells #[.int .i64 vk,.bool von,.int .i64 vn,.slice D4x vls.length k4x] 67))).heap.size:=(by first|omega|(simp;done)|(simp;omega))
      have Hrl_b_1:Hid (∀ W,Below (w4.heap.size+1) (w4.alloc (.cells #[.int .i64 vk,.bool von,.int .i64 vn,.slice D4x vls.length k4x] 67)) W->SlP W (W).heap.size 1 StE (.slice D4x vls.length k4x) vls):=fun W hW=>by
       obtain⟨_,z,_,_,_,_,_,_,_,_,_,_,_,_,_,_,_,_⟩:=HX4.out W hW
       exact z
      have Hrx_t_1:Hid (∀ W,Below (w4.heap.size+1) (w4.alloc (.cells #[.int .i64 vk,.bool von,.int .i64 vn,.slice D4x vls.length k4x] 67)) W->TxB W g (fun b=>okp b∨((w3.alloc (.cells #[.int .i64 V0.kind,.bool V0.on,.int .i64 V0.n,.slice D3x V0.l.length k3x] 67))).heap.size<=b) v2 vo2 (t,tc) (doK (NT,NC) O.length o) (doO (NT,NC) O o)):=fun W hW=>by
       obtain⟨_,_,_,_,_,_,_,_,z,_,_,_,_,_,_,_,_,_⟩:=HX4.out W hW
       exact z
      have Hrl2_1:Hid (∀ W,Below (w4.heap.size+1) (w4.alloc (.cells #[.int .i64 vk,.bool von,.int .i64 vn,.slice D4x vls.length k4x] 67)) W->SlP W (W).heap.size 1 StE (.slice A2 o.path.length n2) o.path):=fun W hW=>by
       obtain⟨_,_,_,_,_,_,_,_,_,z,_,_,_,_,_,_,_,_⟩:=HX4.out W hW
       exact z
      have HQ1_0:=hid (fun (wf:World) (hbf:Below ((w4.alloc (.cells #[.int .i64 vk,.bool von,.int .i64 vn,.slice D4x vls.length k4x] 67))).heap.size (w4.alloc (.cells #[.int .i64 vk,.bool von,.int .i64 vn,.slice D4x vls.length k4x] 67)) wf)=>Calls.boolEq (has20_any vls o.s _ wf (Hrl_b_1.out _ ((Below.refl _ _).trans (hbf.mono hsz1)))) HH.out)
      have f_c3_b:=Qh (B:=((w4.alloc (.cells #[.int .i64 vk,.bool von,.int .i64 vn,.slice D4x vls.length k4x] 67))).heap.size) c3_b (by first|omega|(simp;done)|(simp;omega))
      have f_c21:=Qh (B:=((w4.alloc (.cells #[.int .i64 vk,.bool von,.int .i64 vn,.slice D4x vls.length k4x] 67))).heap.size) c21 (by first|omega|(simp;done)|(simp;omega))
      have f_c22:=Qh (B:=((w4.alloc (.cells #[.int .i64 vk,.bool von,.int .i64 vn,.slice D4x vls.length k4x] 67))).heap.size) c22 (by first|omega|(simp;done)|(simp;omega))
      clear hs_b rl_b c0_b c1_b c2_b c3_b hB hs_d rx_t rl2 c20 c21 c22 c23 c0_a c1_a c2_a c3_a
      refine Qd ((w4.alloc (.cells #[.int .i64 vk,.bool von,.int .i64 vn,.slice D4x vls.length k4x] 67))).heap.size (by kernel_rfl) (by kernel_rfl) ?_
      repeat (go_big_quiet_step (first|(go_at_call 36;with_reducible exact Calls.far_all (Nat.le_refl _) HQ1_0.out)))
      refine wpQuiet_nil ?_
      intro w5 hb
      clear f_c3_b f_c21 f_c22
      have hbk5:Hid (Below (w4.heap.size+1) (w4.alloc (.cells #[.int .i64 vk,.bool von,.int .i64 vn,.slice D4x vls.length k4x] 67)) w5):=hid ((Below.refl _ _).trans (hb.mono hsz1))
      clear hb
      obtain⟨hs_b,rl_b,c0_b,c1_b,c2_b,c3_b,hB,hs_d,rx_t,rl2,c20,c21,c22,c23,c0_a,c1_a,c2_a,c3_a⟩:=HX4.out _ hbk5.out
      go_wp2_with fail
      go_ret
      exact⟨by first|rfl|simp,hB⟩
     ·skip
      have e1:(o.act==1)=false:=by simp[ha]
      have f1:decide (o.act=1)=false:=by simp[ha]
      have e2:(o.act==2)=false:=by simp[ha]
      have f2:decide (o.act=2)=false:=by simp[ha]
      have e3:(o.act==3)=false:=by simp[ha]
      have f3:decide (o.act=3)=false:=by simp[ha]
      have e4:(o.act==4)=false:=by simp[ha]
      have f4:decide (o.act=4)=false:=by simp[ha]
      have e5:(o.act==5)=true:=by simp[ha]
      have f5:decide (o.act=5)=true:=by simp[ha]
      have e6:(o.act==6)=false:=by simp[ha]
      have f6:decide (o.act=6)=false:=by simp[ha]
      have e7:(o.act==7)=false:=by simp[ha]
      have f7:decide (o.act=7)=false:=by simp[ha]
      have hq:=HS2.out.2.2.2.2.1 ha
      obtain⟨vk,von,vn,vls⟩:=V1
      simp only at hq
      have HQ:=hid hq
      clear hq
      clear ha
      go_wp2_with fail
      refine (Jx o.path _ rx_t rl2 (by omega)).mono ?_
      rw[HV1.out,HE1.out]
      rintro e w4 ⟨vl4,rfl,hsl4,hb⟩
      dsimp only at hsl4 ⊢
      obtain⟨D4x,k4x,rfl⟩:=hsl4.shape
      have hbk4:Hid (Below wd.heap.size wd w4):=hid (hb.mono (by first|omega|(simp;done)|(simp;omega)))
      clear hb
      clear hB hs_d rx_t rl2 c20 c21 c22 c23 c0_a c1_a c2_a c3_a
      obtain⟨hB,hs_d,rx_t,rl2,c20,c21,c22,c23,c0_a,c1_a,c2_a,c3_a⟩:=HX3.out _ hbk4.out
      have hlt4318:(w.heap.size+1)<w4.heap.size:=by omega
      have hne4318:(w.heap.size+1)≠w4.heap.size:=by omega
      have hnr4318:w4.heap.size≠(w.heap.size+1):=by omega
      have hlt430:w3.heap.size<w4.heap.size:=by omega
      have hne430:w3.heap.size≠w4.heap.size:=by omega
      have hnr430:w4.heap.size≠w3.heap.size:=by omega
      have HX4:Hid (∀ W,Below (w4.heap.size+1) (w4.alloc (.cells #[.int .i64 vk,.bool von,.int .i64 vn,.slice D4x vls.length k4x] 67)) W->(w4.heap.size+1<=(W).heap.size/\SlP W (W).heap.size 1 StE (.slice D4x vls.length k4x) vls/\(W).cell? ⟨w4.heap.size,0,none⟩=some (.int .i64 vk)/\(W).cell? ⟨w4.heap.size,1,none⟩=some (.bool von)/\(W).cell? ⟨w4.heap.size,2,none⟩=some (.int .i64 vn)/\(W).cell? ⟨w4.heap.size,3,none⟩=some (.slice D4x vls.length k4x)/\Below w.heap.size w W/\wd.heap.size<=(W).heap.size/\TxB W g (fun b=>okp b∨((w3.alloc (.cells #[.int .i64 V0.kind,.bool V0.on,.int .i64 V0.n,.slice D3x V0.l.length k3x] 67))).heap.size<=b) v2 vo2 (t,tc) (doK (NT,NC) O.length o) (doO (NT,NC) O o)/\SlP W (W).heap.size 1 StE (.slice A2 o.path.length n2) o.path/\(W).cell? ⟨(w.heap.size+1),0,none⟩=some (.slice A2 o.path.length n2)/\(W).cell? ⟨(w.heap.size+1),1,none⟩=some (.int .i64 o.act)/\(W).cell? ⟨(w.heap.size+1),2,none⟩=some (.string o.s)/\(W).cell? ⟨(w.heap.size+1),3,none⟩=some (.int .i64 o.n)/\(W).cell? ⟨w3.heap.size,0,none⟩=some (.int .i64 V0.kind)/\(W).cell? ⟨w3.heap.size,1,none⟩=some (.bool V0.on)/\(W).cell? ⟨w3.heap.size,2,none⟩=some (.int .i64 V0.n)/\(W).cell? ⟨w3.heap.size,3,none⟩=some (.slice D3x V0.l.length k3x))):=fun W hW=>by
       have g0:=(hW.block w4.heap.size (by omega)).trans (Qc rfl)
       have hB:Below w4.heap.size w4 W:=((Below.refl _ w4).alloc (Nat.le_refl _) _).trans (hW.mono (by omega))
       exact⟨by have:=hW.size;simpa using this,hsl4.slp (fun b hb=>hb.2) hB,Qa (i:=0) g0,Qa (i:=1) g0,Qa (i:=2) g0,Qa (i:=3) g0,HX3.out W (hbk4.out.trans (hB.mono (by omega)))⟩
      clear hsl4
      go_upto_region 20 with (fail)
      clear hB hs_d rx_t rl2 c20 c21 c22 c23 c0_a c1_a c2_a c3_a
      obtain⟨hs_b,rl_b,c0_b,c1_b,c2_b,c3_b,hB,hs_d,rx_t,rl2,c20,c21,c22,c23,c0_a,c1_a,c2_a,c3_a⟩:=HX4.out _ (Below.refl _ _)
      go_wp2_with fail
      go_ret
      exact⟨by first|rfl|(rw[HQ.out];simp)|(simp[HQ.out]),hB⟩
     ·skip
      have e1:(o.act==1)=false:=by simp[ha]
      have f1:decide (o.act=1)=false:=by simp[ha]
      have e2:(o.act==2)=false:=by simp[ha]
      have f2:decide (o.act=2)=false:=by simp[ha]
      have e3:(o.act==3)=false:=by simp[ha]
      have f3:decide (o.act=3)=false:=by simp[ha]
      have e4:(o.act==4)=false:=by simp[ha]
      have f4:decide (o.act=4)=false:=by simp[ha]
      have e5:(o.act==5)=false:=by simp[ha]
      have f5:decide (o.act=5)=false:=by simp[ha]
      have e6:(o.act==6)=true:=by simp[ha]
      have f6:decide (o.act=6)=true:=by simp[ha]
      have e7:(o.act==7)=false:=by simp[ha]
      have f7:decide (o.act=7)=false:=by simp[ha]
      have hq:=HS2.out.2.2.2.2.2.1 ha
      obtain⟨vk,von,vn,vls⟩:=V1
      simp only at hq
      have HQ:Hid (vls[0]?=some o.s):=by unfold Hid;rw[hq];rfl
      have hl1:((vls.length:Int)==1)=true:=by rw[hq];rfl
      have hl2:decide ((vls.length:Int)=1)=true:=by rw[hq];rfl
      have hl3:(vls.length==1)=true:=by rw[hq];rfl
      have hl5:decide (vls.length=1)=true:=by rw[hq];rfl
      have hl4:(0:Int)<(vls.length:Int):=by rw[hq];simp
      clear hq
      clear ha
      go_wp2_with fail
      refine (Jx o.path _ rx_t rl2 (by omega)).mono ?_
      rw[HV1.out,HE1.out]
      rintro e w4 ⟨vl4,rfl,hsl4,hb⟩
      dsimp only at hsl4 ⊢
      obtain⟨D4x,k4x,rfl⟩:=hsl4.shape
      have hbk4:Hid (Below wd.heap.size wd w4):=hid (hb.mono (by first|omega|(simp;done)|(simp;omega)))
      clear hb
      clear hB hs_d rx_t rl2 c20 c21 c22 c23 c0_a c1_a c2_a c3_a
      obtain⟨hB,hs_d,rx_t,rl2,c20,c21,c22,c23,c0_a,c1_a,c2_a,c3_a⟩:=HX3.out _ hbk4.out
      have hlt4318:(w.heap.size+1)<w4.heap.size:=by omega
      have hne4318:(w.heap.size+1)≠w4.heap.size:=by omega
      have hnr4318:w4.heap.size≠(w.heap.size+1):=by omega
      have hlt430:w3.heap.size<w4.heap.size:=by omega
      have hne430:w3.heap.size≠w4.heap.size:=by omega
      have hnr430:w4.heap.size≠w3.heap.size:=by omega
      have HX4:Hid (∀ W,Below (w4.heap.size+1) (w4.alloc (.cells #[.int .i64 vk,.bool von,.int .i64 vn,.slice D4x vls.length k4x] 67)) W->(w4.heap.size+1<=(W).heap.size/\SlP W (W).heap.size 1 StE (.slice D4x vls.length k4x) vls/\(W).cell? ⟨w4.heap.size,0,none⟩=some (.int .i64 vk)/\(W).cell? ⟨w4.heap.size,1,none⟩=some (.bool von)/\(W).cell? ⟨w4.heap.size,2,none⟩=some (.int .i64 vn)/\(W).cell? ⟨w4.heap.size,3,none⟩=some (.slice D4x vls.length k4x)/\Below w.heap.size w W/\wd.heap.size<=(W).heap.size/\TxB W g (fun b=>okp b∨((w3.alloc (.cells #[.int .i64 V0.kind,.bool V0.on,.int .i64 V0.n,.slice D3x V0.l.length k3x] 67))).heap.size<=b) v2 vo2 (t,tc) (doK (NT,NC) O.length o) (doO (NT,NC) O o)/\SlP W (W).heap.size 1 StE (.slice A2 o.path.length n2) o.path/\(W).cell? ⟨(w.heap.size+1),0,none⟩=some (.slice A2 o.path.length n2)/\(W).cell? ⟨(w.heap.size+1),1,none⟩=some (.int .i64 o.act)/\(W).cell? ⟨(w.heap.size+1),2,none⟩=some (.string o.s)/\(W).cell? ⟨(w.heap.size+1),3,none⟩=some (.int .i64 o.n)/\(W).cell? ⟨w3.heap.size,0,none⟩=some (.int .i64 V0.kind)/\(W).cell? ⟨w3.heap.size,1,none⟩=some (.bool V0.on)/\(W).cell? ⟨w3.heap.size,2,none⟩=some (.int .i64 V0.n)/\(W).cell? ⟨w3.heap.size,3,none⟩=some (.slice D3x V0.l.length k3x))):=fun W hW=>by
       have g0:=(hW.block w4.heap.size (by omega)).trans (Qc rfl)
       have hB:Below w4.heap.size w4 W:=((Below.refl _ w4).alloc (Nat.le_refl _) _).trans (hW.mono (by omega))
       exact⟨by have:=hW.size;simpa using this,hsl4.slp (fun b hb=>hb.2) hB,Qa (i:=0) g0,Qa (i:=1) g0,Qa (i:=2) g0,Qa (i:=3) g0,HX3.out W (hbk4.out.trans (hB.mono (by omega)))⟩
      clear hsl4
      go_upto_region 22 with (fail)
      clear hB hs_d rx_t rl2 c20 c21 c22 c23 c0_a c1_a c2_a c3_a
      obtain⟨hs_b,rl_b,c0_b,c1_b,c2_b,c3_b,hB,hs_d,rx_t,rl2,c20,c21,c22,c23,c0_a,c1_a,c2_a,c3_a⟩:=HX4.out _ (Below.refl _ _)
      obtain⟨D6,k6,hv6,_,_,h6⟩:=rl_b
      simp only[Value.slice.injEq]at hv6
      obtain⟨rfl,_,rfl⟩:=hv6
      obtain⟨b6,o6,hA6,hb6,h6c⟩:=h6 (by intro e;rw[e]at hl4;simp at hl4)
      obtain⟨cs6,⟨hcs6,_⟩,_,hu6⟩:=h6c 0 o.s HQ.out
      subst hcs6
      have h6d:=hu6 0 _ rfl
      simp only[Nat.zero_mul,Nat.add_zero]at h6d
      clear h6 h6c hu6
      subst hA6
      have hss:(o.s.toList==o.s.toList)=true:=by simp
      have HBF:=hid hB
      have f_s:=Qh (B:=((w4.alloc (.cells #[.int .i64 vk,.bool von,.int .i64 vn,.slice (some ⟨b6,o6,none⟩) vls.length k4x] 67))).heap.size) c22 (by first|omega|(simp;done)|(simp;omega))
      have f_l:=Qh (B:=((w4.alloc (.cells #[.int .i64 vk,.bool von,.int .i64 vn,.slice (some ⟨b6,o6,none⟩) vls.length k4x] 67))).heap.size) c3_b (by first|omega|(simp;done)|(simp;omega))
      have f_6:=Qh (B:=((w4.alloc (.cells #[.int .i64 vk,.bool von,.int .i64 vn,.slice (some ⟨b6,o6,none⟩) vls.length k4x] 67))).heap.size) h6d hb6
      clear hs_b c0_b c1_b c2_b c3_b hB hs_d rx_t rl2 c20 c21 c22 c23 c0_a c1_a c2_a c3_a
      clear h6d
      refine Qd ((w4.alloc (.cells #[.int .i64 vk,.bool von,.int .i64 vn,.slice (some ⟨b6,o6,none⟩) vls.length k4x] 67))).heap.size (by kernel_rfl) (by kernel_rfl) ?_
      repeat (go_big_quiet_step (fail))
      refine wpQuiet_nil ?_
      intro w99 hb
      go_wp2_with fail
      go_ret
      exact⟨by first|rfl|simp,HBF.out.trans (hb.mono (by have:=HBF.out.size;omega))⟩
     ·skip
      have e1:(o.act==1)=false:=by simp[ha]
      have f1:decide (o.act=1)=false:=by simp[ha]
      have e2:(o.act==2)=false:=by simp[ha]
      have f2:decide (o.act=2)=false:=by simp[ha]
      have e3:(o.act==3)=false:=by simp[ha]
      have f3:decide (o.act=3)=false:=by simp[ha]
      have e4:(o.act==4)=false:=by simp[ha]
      have f4:decide (o.act=4)=false:=by simp[ha]
      have e5:(o.act==5)=false:=by simp[ha]
      have f5:decide (o.act=5)=false:=by simp[ha]
      have e6:(o.act==6)=false:=by simp[ha]
      have f6:decide (o.act=6)=false:=by simp[ha]
      have e7:(o.act==7)=true:=by simp[ha]
      have f7:decide (o.act=7)=true:=by simp[ha]
      have hq:=HS2.out.2.2.2.2.2.2 ha
      obtain⟨vk,von,vn,vls⟩:=V1
      simp only at hq
      obtain⟨hq1,hq2,hq3⟩:=hq
      subst hq1
      subst hq3
      have hl1:((vls.length:Int)==0)=true:=by rw[hq2];rfl
      have hl2:decide ((vls.length:Int)=0)=true:=by rw[hq2];rfl
      have hl3:(vls.length==0)=true:=by rw[hq2];rfl
      have hl5:decide (vls.length=0)=true:=by rw[hq2];rfl
      clear hq2
      clear ha
      go_wp2_with fail
      refine (Jx o.path _ rx_t rl2 (by omega)).mono ?_
      rw[HV1.out,HE1.out]
      rintro e w4 ⟨vl4,rfl,hsl4,hb⟩
      dsimp only at hsl4 ⊢
      obtain⟨D4x,k4x,rfl⟩:=hsl4.shape
      have hbk4:Hid (Below wd.heap.size wd w4):=hid (hb.mono (by first|omega|(simp;done)|(simp;omega)))
      clear hb
      clear hB hs_d rx_t rl2 c20 c21 c22 c23 c0_a c1_a c2_a c3_a
      obtain⟨hB,hs_d,rx_t,rl2,c20,c21,c22,c23,c0_a,c1_a,c2_a,c3_a⟩:=HX3.out _ hbk4.out
      have hlt4318:(w.heap.size+1)<w4.heap.size:=by omega
      have hne4318:(w.heap.size+1)≠w4.heap.size:=by omega
      have hnr4318:w4.heap.size≠(w.heap.size+1):=by omega
      have hlt430:w3.heap.size<w4.heap.size:=by omega
      have hne430:w3.heap.size≠w4.heap.size:=by omega
      have hnr430:w4.heap.size≠w3.heap.size:=by omega
      have HX4:Hid (∀ W,Below (w4.heap.size+1) (w4.alloc (.cells #[.int .i64 vk,.bool false,.int .i64 0,.slice D4x vls.length k4x] 67)) W->(w4.heap.size+1<=(W).heap.size/\SlP W (W).heap.size 1 StE (.slice D4x vls.length k4x) vls/\(W).cell? ⟨w4.heap.size,0,none⟩=some (.int .i64 vk)/\(W).cell? ⟨w4.heap.size,1,none⟩=some (.bool false)/\(W).cell? ⟨w4.heap.size,2,none⟩=some (.int .i64 0)/\(W).cell? ⟨w4.heap.size,3,none⟩=some (.slice D4x vls.length k4x)/\Below w.heap.size w W/\wd.heap.size<=(W).heap.size/\TxB W g (fun b=>okp b∨((w3.alloc (.cells #[.int .i64 V0.kind,.bool V0.on,.int .i64 V0.n,.slice D3x V0.l.length k3x] 67))).heap.size<=b) v2 vo2 (t,tc) (doK (NT,NC) O.length o) (doO (NT,NC) O o)/\SlP W (W).heap.size 1 StE (.slice A2 o.path.length n2) o.path/\(W).cell? ⟨(w.heap.size+1),0,none⟩=some (.slice A2 o.path.length n2)/\(W).cell? ⟨(w.heap.size+1),1,none⟩=some (.int .i64 o.act)/\(W).cell? ⟨(w.heap.size+1),2,none⟩=some (.string o.s)/\(W).cell? ⟨(w.heap.size+1),3,none⟩=some (.int .i64 o.n)/\(W).cell? ⟨w3.heap.size,0,none⟩=some (.int .i64 V0.kind)/\(W).cell? ⟨w3.heap.size,1,none⟩=some (.bool V0.on)/\(W).cell? ⟨w3.heap.size,2,none⟩=some (.int .i64 V0.n)/\(W).cell? ⟨w3.heap.size,3,none⟩=some (.slice D3x V0.l.length k3x))):=fun W hW=>by
       have g0:=(hW.block w4.heap.size (by omega)).trans (Qc rfl)
       have hB:Below w4.heap.size w4 W:=((Below.refl _ w4).alloc (Nat.le_refl _) _).trans (hW.mono (by omega))
       exact⟨by have:=hW.size;simpa using this,hsl4.slp (fun b hb=>hb.2) hB,Qa (i:=0) g0,Qa (i:=1) g0,Qa (i:=2) g0,Qa (i:=3) g0,HX3.out W (hbk4.out.trans (hB.mono (by omega)))⟩
      clear hsl4
      go_upto_region 23 with (fail)
      clear hB hs_d rx_t rl2 c20 c21 c22 c23 c0_a c1_a c2_a c3_a
      obtain⟨hs_b,rl_b,c0_b,c1_b,c2_b,c3_b,hB,hs_d,rx_t,rl2,c20,c21,c22,c23,c0_a,c1_a,c2_a,c3_a⟩:=HX4.out _ (Below.refl _ _)
      go_wp2_with fail
      go_ret
      exact⟨by first|rfl|simp,hB⟩
    ·skip
     have hD':(D==0)=false:=by simpa using hD0
     have hD2:(D != 0)=true:=by simpa using hD0
     go_wp2_with fail
     go_ret
     exact⟨rfl,hB⟩
end Go.Proofs.YtidebdbjekijkaaGreat
namespace Go.Proofs.YtidebdbjekijkaaGreat
open Go.ChangeShapes Go.WideShapes Go.ChangeAt Go.RowKit
section
variable {H:Type}{enc:TypeId×Value->H}{w:World}
theorem ops_len {v:Value}{d:DataW H}{p:List MemPlace}(h:DataW.Trod enc Tryz.prog w 0 (fun _=>true) true 57 v d p)(hw:Wt Tryz.prog 57 d){B:Nat}{E:Opr->List Value->Prop}{l:List Opr}(hl:SlP w B 4 E v l):l.length*56<=140737488351232:=by
 obtain⟨fuel,hf⟩:=h
 obtain⟨A,c,rfl,_⟩:=hl
 have hf':DataW.trod enc Tryz.prog w 0 (fun _=>true) true fuel 57 [.slice A l.length c]=some (d,p):=hf
 rcases DataW.trod_slice Tryz.underlying57 hf' with⟨h1,h2⟩|⟨a,len,cap,elems,rest,n,h0,h1,h2,_,hl',hm,hlen,he,hs,_⟩
 ·simp at h1;rw[h1.2.1];decide
 ·simp only[List.cons.injEq,Value.slice.injEq,and_true]at h1
  have hx:=congrArg Prod.fst h2
  simp only at hx
  subst hx
  obtain⟨hr,_⟩:=Wt.elem Tryz.underlying57 hw
  rw[zJh,List.length_map,List.length_map]at hr
  unfold reachBytes at hr
  have:l.length<=elems.length:=by omega
  have h3:l.length*56<=(elems.length+rest.length)*56:=Nat.mul_le_mul_right _ (by omega)
  omega
end
end Go.Proofs.YtidebdbjekijkaaGreat
