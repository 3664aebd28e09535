/- What the laws need. No condition but those that each lemma states. -/
import Derived.Deep.QuietTactic
import Derived.Lib.AppendZerosOnto
import Derived.Lib.SliceRun
import Derived.RegionTactic
import Derived.Shelf.Abstract
import Derived.Shelf.Slices.CompactS
import Derived.Shelf.Slices.In.SortNone
import Derived.Shelf.Sort.Plain
import Derived.Test.YtbcoelggdikipaaGreatProg
import Derived.Test.YtbcoelggdikipaaGreatUw2
import Derived.Test.YtbcoelggdikipaaGreatUw4
import Derived.Test.YtbcoelggdikipaaGreatUw1
import Derived.Test.YtbcoelggdikipaaGreatUw3
set_option maxRecDepth 100000
set_option maxHeartbeats 8000000
set_option linter.unusedSimpArgs false
namespace Go.Proofs.YtbcoelggdikipaaGreat
open Go.RowKit
def runOk (r:Int×Int):Prop:=1<=r.1/\r.1<=r.2/\r.2<=1099511627776
theorem Qo (p:Option Int)(r:Int×Int)(rs:List (Int×Int)):runsR p (r :: rs)=true↔runOk r/\okR p r.1=true/\runsR (some r.2) rs=true:=by
 rw[X3]
 simp only[Bool.and_eq_true,numB,decide_eq_true_eq,runOk]
 constructor
 ·rintro⟨⟨⟨⟨h1,h2⟩,h3⟩,h4⟩,h5⟩;exact⟨by omega,h4,h5⟩
 ·rintro⟨h1,h4,h5⟩;exact⟨⟨⟨⟨by omega,by omega⟩,by omega⟩,h4⟩,h5⟩
theorem qVe (p:Option Int):runsR p []=true:=by cases p<;>rfl
theorem ZM (p:Option Int)(r:Int×Int):runsR p [r]=true↔runOk r/\okR p r.1=true:=by rw[Qo,qVe];simp
theorem X5:∀ (L:List (Int×Int)) (p:Option Int) (q r:Int×Int),runsR p (L++[q]++[r])=true↔runsR p (L++[q])=true/\runOk r/\q.2+1<r.1
 |[],p,q,r=>by
  rw[List.nil_append,ZM,List.cons_append,Qo,List.nil_append,ZM]
  simp only[okR,decide_eq_true_eq,and_assoc]
 |x :: L,p,q,r=>by
  rw[List.cons_append,List.cons_append,Qo,Qo,X5 L (some x.2) q r]
  simp only[and_assoc]
theorem YV:∀ (L:List (Int×Int)) (p:Option Int) (q:Int×Int),runsR p (L++[q])=true->runOk q
 |[],p,q,h=>((ZM p q).1 h).1
 |x :: L,p,q,h=>by
  rw[List.cons_append,Qo]at h
  exact YV L _ q h.2.2
theorem X6:∀ (L:List (Int×Int)) (p:Option Int) (q:Int×Int) (m:Int),runsR p (L++[q])=true->q.2<=m->m<=1099511627776->runsR p (L++[(q.1,m)])=true
 |[],p,q,m,h,h1,h2=>by
  rw[List.nil_append,ZM]at h ⊢
  obtain⟨h,h'⟩:=h
  unfold runOk at *
  exact⟨⟨h.1,by show q.1<=m;omega,h2⟩,h'⟩
 |x :: L,p,q,m,h,h1,h2=>by
  rw[List.cons_append,Qo]at h ⊢
  exact⟨h.1,h.2.1,X6 L _ q m h.2.2 h1 h2⟩
theorem Z0 (a b:List (Int×Int))(n:Int):hasL (a++b) n=(hasL a n||hasL b n):=by simp[hasL]
theorem qZl:∀ (l:List (Int×Int)) (p:Int),runsR (some p) l=true->∀ n,hasL l n=true->p+1<n
 |[],p,_,n,h=>by simp[hasL]at h
 |r :: l,p,hr,n,h=>by
  rw[Qo]at hr
  obtain⟨h1,h2,h3⟩:=hr
  simp only[okR,decide_eq_true_eq]at h2
  simp only[hasL,List.any_cons,Bool.or_eq_true,inR,Bool.and_eq_true,decide_eq_true_eq]at h
  unfold runOk at h1
  rcases h with h|h
  ·omega
  ·have:=qZl l r.2 h3 n (by simpa[hasL,inR] using h)
   omega
theorem YF:∀ (a b:List (Int×Int)) (p q:Option Int),runsR p a=true->runsR q b=true->(∀ n,hasL a n=hasL b n)->a=b
 |[],[],_,_,_,_,_=>rfl
 |[],r :: b,_,q,_,hb,h=>by
  rw[Qo]at hb
  have:=h r.1
  simp[hasL,inR]at this
  have:=hb.1
  unfold runOk at this
  omega
 |r :: a,[],p,_,ha,_,h=>by
  rw[Qo]at ha
  have:=h r.1
  simp[hasL,inR]at this
  have:=ha.1
  unfold runOk at this
  omega
 |r :: a,s :: b,p,q,ha,hb,h=>by
  rw[Qo]at ha hb
  obtain⟨a1,a2,a3⟩:=ha
  obtain⟨b1,b2,b3⟩:=hb
  have ha':=qZl a r.2 a3
  have hb':=qZl b s.2 b3
  have hc:∀ (x:Int×Int) (l:List (Int×Int)) n,hasL (x :: l) n=(inR x n||hasL l n):=fun x l n=>by simp[hasL]
  have hin:∀ (x:Int×Int) n,inR x n=true↔x.1<=n/\n<=x.2:=fun x n=>by simp[inR]
  unfold runOk at a1 b1
  have key:∀ n,(inR r n=true∨hasL a n=true)↔(inR s n=true∨hasL b n=true):=fun n=>by
   have:=h n;rw[hc,hc,Bool.eq_iff_iff]at this;simpa using this
  have e1:r.1=s.1:=by
   have k1:=(key r.1).1 (.inl ((hin r _).2 ⟨by omega,by omega⟩))
   have k2:=(key s.1).2 (.inl ((hin s _).2 ⟨by omega,by omega⟩))
   rw[hin]at k1 k2
   have:=hb' r.1;have:=ha' s.1
   rcases k1 with k1|k1<;>rcases k2 with k2|k2
   ·omega
   ·have:=ha' s.1 k2;omega
   ·have:=hb' r.1 k1;omega
   ·have:=hb' r.1 k1;have:=ha' s.1 k2;omega
  have e2:r.2=s.2:=by
   have k1:=(key r.2).1 (.inl ((hin r _).2 ⟨by omega,by omega⟩))
   have k2:=(key s.2).2 (.inl ((hin s _).2 ⟨by omega,by omega⟩))
   have k3:=key (r.2+1)
   have k4:=key (s.2+1)
   rw[hin]at k1 k2
   rw[hin,hin]at k3 k4
   rcases Int.lt_trichotomy r.2 s.2 with hlt|heq|hgt
   ·have:=k3.2 (.inl ⟨by omega,by omega⟩)
    rcases this with h|h
    ·omega
    ·have:=ha' _ h;omega
   ·exact heq
   ·have:=k4.1 (.inl ⟨by omega,by omega⟩)
    rcases this with h|h
    ·omega
    ·have:=hb' _ h;omega
  have e:r=s:=Prod.ext e1 e2
  subst e
  congr 1
  refine YF a b _ _ a3 b3 fun n=>?_
  by_cases hn:inR r n=true
  ·rw[hin]at hn
   have x1:hasL a n=false:=by
    cases hx:hasL a n with
    |false=>rfl
    |true=>have:=ha' n hx;omega
   have x2:hasL b n=false:=by
    cases hx:hasL b n with
    |false=>rfl
    |true=>have:=hb' n hx;omega
   rw[x1,x2]
  ·have:=key n
   simp only[hn]at this
   rw[Bool.eq_iff_iff]
   simpa using this
theorem Y8:∀ (l:List Int) (a:Int) (s:Int×Bool),(s.2=true->a<s.1)->(∀ y,(y∈l/\a<y∨(s.2=true/\y=s.1))->(l.foldl (nextS a) s).2=true/\(l.foldl (nextS a) s).1<=y)
 |[],a,s,hs,y,h=>by
  rcases h with h|h
  ·cases h.1
  ·exact⟨h.1,by rw[h.2];exact Int.le_refl _⟩
 |x :: l,a,s,hs,y,h=>by
  rw[List.foldl_cons]
  by_cases hc:a<x/\(s.2=false∨x<s.1)
  ·have e:nextS a s x=(x,true):=by simp[nextS,hc]
   rw[e]
   have ih:=Y8 l a (x,true) (fun _=>hc.1)
   rcases h with⟨h,hy⟩|h
   ·rcases List.mem_cons.1 h with rfl|h
    ·exact ih y (.inr ⟨rfl,rfl⟩)
    ·exact ih y (.inl ⟨h,hy⟩)
   ·have:=ih x (.inr ⟨rfl,rfl⟩)
    refine⟨this.1,?_⟩
    rcases hc.2 with h2|h2
    ·rw[h.1]at h2;cases h2
    ·have h3:=this.2;rw[h.2];omega
  ·have e:nextS a s x=s:=by simp only[nextS,if_neg hc]
   rw[e]
   have ih:=Y8 l a s hs
   rcases h with⟨h,hy⟩|h
   ·rcases List.mem_cons.1 h with rfl|h
    ·cases hs2:s.2 with
     |false=>exact absurd ⟨hy,.inl hs2⟩ hc
     |true=>
      have hle:s.1<=y:=by
       rcases Int.lt_or_le y s.1 with h|h
       ·exact absurd ⟨hy,.inr h⟩ hc
       ·exact h
      have:=ih s.1 (.inr ⟨hs2,rfl⟩)
      exact⟨this.1,by omega⟩
    ·exact ih y (.inl ⟨h,hy⟩)
   ·exact ih y (.inr h)
theorem VV {l:List Int}{a y:Int}(h:y∈l)(hy:a<y):(nextL l a).2=true/\(nextL l a).1<=y:=
 Y8 l a (0,false) (fun h=>by cases h) y (.inl ⟨h,hy⟩)
theorem Vt {l:List Int}{a:Int}(h:(nextL l a).2=true):(nextL l a).1∈l/\a<(nextL l a).1/\∀ y∈l,a<y->(nextL l a).1<=y:=
 ⟨(Q6 h).1,(Q6 h).2,fun _ hy hlt=>(VV hy hlt).2⟩
theorem J2 {l:List Int}{a:Int}(h:(nextL l a).2=false):∀ y∈l,y<=a:=fun y hy=>by
 rcases Int.lt_or_le a y with hlt|hle
 ·have:=(VV hy hlt).1;rw[h]at this;cases this
 ·exact hle
theorem VW {out:List (Int×Int)}{x:Int}(h:runsR none out=true)(hl:∀ n,hasL out n=true->n<=x):∀ q,out.getLast?=some q->q.2<=x:=fun q hq=>by
 obtain⟨L,rfl⟩:∃ L,out=L++[q]:=by
  rcases List.eq_nil_or_concat out with rfl|⟨L,r,rfl⟩
  ·simp at hq
  ·rw[List.concat_eq_append,List.getLast?_concat]at hq;cases hq;exact⟨L,List.concat_eq_append⟩
 have hqo:=YV L none q h
 refine hl q.2 ?_
 rw[Z0]
 unfold runOk at hqo
 simp[hasL,inR]
 right;omega
theorem VX {out:List (Int×Int)}{x y:Int}(h:runsR none out=true)(hr:runOk (x,y))(ho:∀ q,out.getLast?=some q->q.2<x)(f:List (Int×Int))
  (hf:f=match out.getLast? with|some r=>if r.2=x-1 then out.set (out.length-1) (r.1,y) else out++[(x,y)]|none=>[(x,y)]) :
  runsR none f=true/\∀ n,hasL f n=(hasL out n||inR (x,y) n):=by
 subst hf
 rcases List.eq_nil_or_concat out with rfl|⟨L,q,rfl⟩
 ·exact⟨(ZM none (x,y)).2 ⟨hr,rfl⟩,fun n=>by simp[hasL]⟩
 ·rw[List.concat_eq_append]at *
  have hq:=ho q (by simp)
  have hqo:=YV L none q h
  unfold runOk at *
  simp only at hr
  rw[List.getLast?_concat]
  dsimp only
  split
  ·rename_i hc
   have e:(L++[q]).set ((L++[q]).length-1) (q.1,y)=L++[(q.1,y)]:=by simp
   rw[e]
   refine⟨X6 L none q _ h (by omega) (by omega),fun n=>?_⟩
   rw[Z0,Z0,Bool.or_assoc]
   congr 1
   rw[Bool.eq_iff_iff]
   simp[hasL,inR]
   omega
  ·rename_i hc
   refine⟨(X5 L none q (x,y)).2 ⟨h,hr,by show q.2+1<x;omega⟩,fun n=>?_⟩
   rw[Z0];simp[hasL]
theorem KR (ps:List Int)(hps:∀ x∈ps,1<=x/\x<=1099511627776):∀ (n:Nat) (a:Int) (out:List (Int×Int)),cnt ps (a+1)<n->runsR none out=true->(∀ m,hasL out m=true↔m∈ps/\m<=a) ->
  runsR none (ofGo ps n (nextL ps a) out)=true/\∀ m,hasL (ofGo ps n (nextL ps a) out) m=true↔m∈ps
 |0,a,out,hn,_,_=>by omega
 |n+1,a,out,hn,hr,ho=>by
  rw[ofGo]
  split
  ·rename_i hk
   obtain⟨h1,h2,h3⟩:=Vt hk
   generalize (nextL ps a).1=x at *
   have hb:=hps x h1
   have hl:=VW hr (x:=a) (fun m hm=>((ho m).1 hm).2)
   obtain⟨k1,k2⟩:=VX (x:=x) (y:=x) hr ⟨by exact hb.1,by show x<=x;omega,by exact hb.2⟩ (fun q hq=>by have:=hl q hq;omega) (ofOut out x) rfl
   refine KR ps hps n x (ofOut out x) ?_ k1 fun m=>?_
   ·have:=qXp (y:=x+1) h1 (by omega)
    have h4:cnt ps x<=cnt ps (a+1):=by
     unfold cnt
     rw[←List.countP_eq_length_filter,←List.countP_eq_length_filter]
     exact List.countP_mono_left fun z _ hz=>by simp at hz ⊢;omega
    omega
   ·rw[k2,Bool.or_eq_true,ho]
    simp only[inR,Bool.and_eq_true,decide_eq_true_eq]
    constructor
    ·rintro (h|h)
     ·exact⟨h.1,by omega⟩
     ·obtain rfl:m=x:=by omega
      exact⟨h1,by omega⟩
    ·rintro⟨hm,hle⟩
     by_cases hma:m<=a
     ·exact .inl ⟨hm,hma⟩
     ·have:=h3 m hm (by omega)
      exact .inr ⟨by omega,by omega⟩
  ·rename_i hk
   have hk':(nextL ps a).2=false:=by simpa using hk
   exact⟨hr,fun m=>(ho m).trans ⟨fun h=>h.1,fun h=>⟨h,J2 hk' m h⟩⟩⟩
theorem ZN {ps:List Int}(hps:∀ x∈ps,1<=x/\x<=1099511627776):runsR none (ofL ps)=true/\∀ m,hasL (ofL ps) m=true↔m∈ps:=by
 unfold ofL
 refine KR ps hps (ps.length+1) 0 [] (by have:=qXq ps (0+1);omega) rfl fun m=>?_
 constructor
 ·intro h;simp[hasL]at h
 ·rintro⟨h,h'⟩;have:=hps m h;omega
theorem qX2 {r:Int×Int}{ps:List Int}{x y n:Int}(h1:r.1∈ps)(h2:r.2+1∈ps)(hn:∀ z∈ps,x<z->y<=z)(hx:x<=n)(hy:n<y):inR r n=inR r x:=by
 rw[Bool.eq_iff_iff]
 simp only[inR,Bool.and_eq_true,decide_eq_true_eq]
 have a1:=hn _ h1
 have a2:=hn _ h2
 omega
theorem VY {l:List (Int×Int)}{ps:List Int}{x y n:Int}(hl:∀ r∈l,r.1∈ps/\r.2+1∈ps)(hn:∀ z∈ps,x<z->y<=z)(hx:x<=n)(hy:n<y):hasL l n=hasL l x:=by
 unfold hasL
 rw[Bool.eq_iff_iff,List.any_eq_true,List.any_eq_true]
 constructor
 ·rintro⟨r,hr,h⟩;exact⟨r,hr,by rw[←qX2 (hl r hr).1 (hl r hr).2 hn hx hy];exact h⟩
 ·rintro⟨r,hr,h⟩;exact⟨r,hr,by rw[qX2 (hl r hr).1 (hl r hr).2 hn hx hy];exact h⟩
theorem qX3 {l:List (Int×Int)}{ps:List Int}{x n:Int}(hl:∀ r∈l,r.1∈ps/\r.2+1∈ps)(hn:∀ z∈ps,z<=x)(hx:x<=n):hasL l n=false:=by
 unfold hasL
 rw[List.any_eq_false]
 intro r hr
 have:=hn _ (hl r hr).2
 simp[inR];omega
theorem KT {l:List (Int×Int)}{ps:List Int}{x n:Int}(hl:∀ r∈l,r.1∈ps/\r.2+1∈ps)(hn:∀ z∈ps,x<z)(hx:n<=x):hasL l n=false:=by
 unfold hasL
 rw[List.any_eq_false]
 intro r hr
 have:=hn _ (hl r hr).1
 simp[inR];omega
theorem X7 (a b:List (Int×Int))(how:Int)(ps:List Int)(ha:∀ r∈a,r.1∈ps/\r.2+1∈ps)(hb:∀ r∈b,r.1∈ps/\r.2+1∈ps)(hps:∀ x∈ps,1<=x/\x<=1099511627777) :
  ∀ (n:Nat) (x:Int) (out:List (Int×Int)),cnt ps x<n->x∈ps->runsR none out=true->(∀ m,hasL out m=true↔inn how (hasL a m) (hasL b m)=true/\m<x) ->
  runsR none (byGo a b how ps n (x,true) out)=true/\∀ m,hasL (byGo a b how ps n (x,true) out) m=inn how (hasL a m) (hasL b m)
 |0,x,out,hn,_,_,_=>by omega
 |n+1,x,out,hn,hx,hr,ho=>by
  rw[byGo,if_pos rfl]
  have hxb:=hps x hx
  have hl:=VW hr (x:=x-1) (fun m hm=>by have:=((ho m).1 hm).2;omega)
  cases hk:(nextL ps x).2 with
  |true=>
   obtain⟨h1,h2,h3⟩:=Vt hk
   have e:nextL ps x=((nextL ps x).1,true):=by rw[←hk]
   rw[e]
   generalize (nextL ps x).1=y at *
   dsimp only
   have hyb:=hps y h1
   have hc:=qXp hx h2
   have sa:=fun m (h1:x<=m) (h2:m<y)=>VY ha h3 h1 h2
   have sb:=fun m (h1:x<=m) (h2:m<y)=>VY hb h3 h1 h2
   split
   ·rename_i hi
    obtain⟨k1,k2⟩:=VX (x:=x) (y:=y-1) hr ⟨by exact hxb.1,by show x<=y-1;omega,by show y-1<=_;omega⟩ (fun q hq=>by have:=hl q hq;omega) (byOut out x y) rfl
    refine X7 a b how ps ha hb hps n y (byOut out x y) (by omega) h1 k1 fun m=>?_
    rw[k2,Bool.or_eq_true,ho]
    simp only[inR,Bool.and_eq_true,decide_eq_true_eq]
    constructor
    ·rintro (h|h)
     ·exact⟨h.1,by omega⟩
     ·exact⟨by rw[sa m (by omega) (by omega),sb m (by omega) (by omega)];exact hi,by omega⟩
    ·rintro⟨hm,hlt⟩
     by_cases h:m<x
     ·exact .inl ⟨hm,h⟩
     ·exact .inr ⟨by omega,by omega⟩
   ·rename_i hi
    refine X7 a b how ps ha hb hps n y out (by omega) h1 hr fun m=>?_
    rw[ho]
    constructor
    ·rintro⟨h,h'⟩;exact⟨h,by omega⟩
    ·rintro⟨h,h'⟩
     refine⟨h,?_⟩
     rcases Int.lt_or_le m x with hlt|hle
     ·exact hlt
     ·rw[sa m hle h',sb m hle h']at h;exact absurd h hi
  |false=>
   have h3:=J2 hk
   have e:nextL ps x=((nextL ps x).1,false):=by rw[←hk]
   have ea:=fun m (h:x<=m)=>qX3 ha h3 h
   have eb:=fun m (h:x<=m)=>qX3 hb h3 h
   have hi:inn how (hasL a x) (hasL b x)=false:=by rw[ea x (Int.le_refl _),eb x (Int.le_refl _)];simp[inn]
   dsimp only
   rw[hi,e,X2,if_neg (by decide)]
   refine⟨hr,fun m=>?_⟩
   rw[Bool.eq_iff_iff,ho]
   constructor
   ·exact fun h=>h.1
   ·intro h
    refine⟨h,?_⟩
    rcases Int.lt_or_le m x with hlt|hle
    ·exact hlt
    ·rw[ea m hle,eb m hle]at h;simp[inn]at h
theorem Xt {l:List (Int×Int)}{r:Int×Int}(h:r∈l):r.1∈endsL l/\r.2+1∈endsL l:=by
 unfold endsL
 exact⟨List.mem_flatMap.2 ⟨r,h,by simp⟩,List.mem_flatMap.2 ⟨r,h,by simp⟩⟩
theorem Yi {a b:List (Int×Int)}(how:Int)(ha:∀ r∈a,runOk r)(hb:∀ r∈b,runOk r):runsR none (byL a b how)=true/\∀ m,hasL (byL a b how) m=inn how (hasL a m) (hasL b m):=by
 have hps:∀ x∈endsL a++endsL b,1<=x/\x<=1099511627777:=fun x hx=>by
  have:∀ (l:List (Int×Int)),(∀ r∈l,runOk r)->x∈endsL l->1<=x/\x<=1099511627777:=fun l hl hx=>by
   obtain⟨r,hr,hx⟩:=List.mem_flatMap.1 hx
   have:=hl r hr
   unfold runOk at this
   simp at hx
   omega
  rcases List.mem_append.1 hx with h|h
  ·exact this a ha h
  ·exact this b hb h
 have ea:∀ r∈a,r.1∈endsL a++endsL b/\r.2+1∈endsL a++endsL b:=fun r hr=>⟨List.mem_append_left _ (Xt hr).1,List.mem_append_left _ (Xt hr).2⟩
 have eb:∀ r∈b,r.1∈endsL a++endsL b/\r.2+1∈endsL a++endsL b:=fun r hr=>⟨List.mem_append_right _ (Xt hr).1,List.mem_append_right _ (Xt hr).2⟩
 unfold byL
 generalize endsL a++endsL b=ps at *
 cases hk:(nextL ps 0).2 with
 |true=>
  obtain⟨h1,h2,h3⟩:=Vt hk
  have e:nextL ps 0=((nextL ps 0).1,true):=by rw[←hk]
  rw[e]
  generalize (nextL ps 0).1=x at *
  refine X7 a b how ps ea eb hps (ps.length+1) x [] (by have:=qXq ps x;omega) h1 rfl fun m=>?_
  constructor
  ·intro h;simp[hasL]at h
  ·rintro⟨h,hlt⟩
   exfalso
   have hq:∀ z∈ps,m<z:=fun z hz=>by have:=h3 z hz (by have:=hps z hz;omega);omega
   rw[KT ea hq (Int.le_refl _),KT eb hq (Int.le_refl _)]at h
   simp[inn]at h
 |false=>
  have h3:=J2 hk
  have e:nextL ps 0=((nextL ps 0).1,false):=by rw[←hk]
  rw[e,X2]
  have hn:ps=[]:=by
   cases ps with
   |nil=>rfl
   |cons z zs=>have:=h3 z (by simp);have:=hps z (by simp);omega
  subst hn
  have:∀ (l:List (Int×Int)),(∀ r∈l,r.1∈([]:List Int)/\r.2+1∈([]:List Int))->l=[]:=fun l hl=>by
   cases l with
   |nil=>rfl
   |cons z zs=>have:=(hl z (by simp)).1;simp at this
  rw[this a ea,this b eb]
  exact⟨rfl,fun m=>by simp[hasL,inn]⟩
theorem V6:∀ (es:List En) (p:Option Dt),entsB p es=true->∀ e∈es,e.right=true
 |[],_,_,_,h=>by cases h
 |e :: es,p,h,x,hx=>by
  rw[ZE]at h
  simp only[Bool.and_eq_true]at h
  rcases List.mem_cons.1 hx with rfl|hx
  ·exact h.1.1
  ·exact V6 es _ h.2 x hx
theorem KX:∀ (ks:List Kd) (p:Option ByteArray) (deep:Int),Tr.rightL p ks deep=true->∀ k t,(k,t)∈ks->t.right (deep-1)=true
 |[],_,_,_,_,_,h=>by cases h
 |(k',t') :: ks,p,deep,h,k,t,hk=>by
  rw[QX]at h
  simp only[Bool.and_eq_true]at h
  rcases List.mem_cons.1 hk with e|hk
  ·cases e;exact h.1.2
  ·exact KX ks _ deep h.2 k t hk
theorem V7:∀ (ks:List Kd) (x:Dt),x∈Tr.dotsL ks->∃ k t,(k,t)∈ks/\x∈t.dots
 |[],x,h=>by rw[Tr.dotsL]at h;cases h
 |(k,t) :: ks,x,h=>by
  rw[Tr.dotsL]at h
  rcases List.mem_append.1 h with h|h
  ·exact⟨k,t,by simp,h⟩
  ·obtain⟨k',t',h1,h2⟩:=V7 ks x h
   exact⟨k',t',by simp[h1],h2⟩
theorem Q0 (t:Tr):∀ (deep:Int),t.right deep=true->∀ x∈t.dots,x.right=true:=by
 induction t using Tr.ind with
 |h es ks ih=>
  intro deep h x hx
  rw[Tr.right]at h
  simp only[Bool.and_eq_true]at h
  rw[Tr.dots]at hx
  rcases List.mem_append.1 hx with hx|hx
  ·obtain⟨e,he,rfl⟩:=List.mem_map.1 hx
   have:=V6 es none h.1.2 e he
   simp[En.right]at this
   exact this.1
  ·obtain⟨k,t,hk,hx⟩:=V7 ks x hx
   exact ih k t hk (deep-1) (KX ks none deep h.2 k t hk) x hx
theorem KY {t:Tr}{deep:Int}(h:t.right deep=true):∀ d∈t.dots,0<=d.n/\d.n<=1099511627778:=fun d hd=>by
 have:=Q0 t deep h d hd
 simp[Dt.right]at this
 omega
def chkT (t:Tr)(d:Dt):Bool:=t.right 5&&d.right&&!hasC (ctxOf t.dots) d
theorem V8 (t:Tr)(d:Dt)(ve vk:Value)(w:World)(h:t.rd w w.heap.size ve vk)(hN:t.sz<=90000) :
  Calls Tryz.prog 102 #[.agg #[ve,vk],.agg #[.int .i64 d.dc,.int .i64 d.n]] w fun e w'=>e=.returned (.bool (chkT t d))/\Below w.heap.size w w':=by
 obtain⟨A3,n3,A4,n4,rfl,rfl⟩:=Qj h
 have HB:Hid (∀ w',Below (w.heap.size+1+1) ((w.alloc (.cells #[.slice A3 t.es.length n3,.slice A4 t.ks.length n4] 25)).alloc (.cells #[.int .i64 d.dc,.int .i64 d.n] 78)) w'->Below w.heap.size w w'/\(w'.cell? ⟨w.heap.size,0,none⟩=some (.slice A3 t.es.length n3)/\w'.cell? ⟨w.heap.size,1,none⟩=some (.slice A4 t.ks.length n4)/\w'.cell? ⟨w.heap.size+1,0,none⟩=some (.int .i64 d.dc)/\w'.cell? ⟨w.heap.size+1,1,none⟩=some (.int .i64 d.n))/\t.rd w' w'.heap.size (.slice A3 t.es.length n3) (.slice A4 t.ks.length n4)):=fun w' hb=>by
  have hB:Below w.heap.size w w':=(((Below.refl _ w).alloc (Nat.le_refl _) _).alloc (by simp) _).trans (hb.mono (by omega))
  refine⟨hB,⟨?_,?_,?_,?_⟩,Qi hB hB.size _ _ _ h⟩
  ·rw[hb.cell (p:=⟨w.heap.size,0,none⟩) (by simp;omega),World.cell?_alloc_past _ _ _ (by simp),World.cell?_alloc_new];rfl
  ·rw[hb.cell (p:=⟨w.heap.size,1,none⟩) (by simp;omega),World.cell?_alloc_past _ _ _ (by simp),World.cell?_alloc_new];rfl
  ·rw[hb.cell (p:=⟨w.heap.size+1,0,none⟩) (by simp),World.cell?_alloc_at _ _ _ _ (by simp)];rfl
  ·rw[hb.cell (p:=⟨w.heap.size+1,1,none⟩) (by simp),World.cell?_alloc_at _ _ _ _ (by simp)];rfl
 have hw0:=HB.out _ (Below.refl _ _)
 have f0:=Qh (B:=w.heap.size+1+1) hw0.2.1.1 (by omega)
 have f1:=Qh (B:=w.heap.size+1+1) hw0.2.1.2.1 (by omega)
 have f2:=Qh (B:=w.heap.size+1+1) hw0.2.1.2.2.1 (by omega)
 have f3:=Qh (B:=w.heap.size+1+1) hw0.2.1.2.2.2 (by omega)
 clear hw0
 go_enter Tryz.func102,Tryz.ntmps102
 rcases hr:t.right 5
 ·go_upto_region 1 with (fail)
  refine Qc (w.heap.size+1+1) (by kernel_rfl) (by kernel_rfl) ?_
  repeat (go_big_quiet_step ((go_at_call 48;exact Calls.far_all (by simp) (fun w' hb'=>hr▸QO t w' _ _ (HB.out w' hb').2.2))))
  refine wpQuiet_nil ?_
  intro wq hbq
  go_wp2_with fail
  go_ret
  exact⟨Qf (by rw[chkT,hr];rfl),(HB.out _ hbq).1⟩
 rcases hd:d.right
 ·go_upto_region 1 with (fail)
  refine Qc (w.heap.size+1+1) (by kernel_rfl) (by kernel_rfl) ?_
  repeat (go_big_quiet_step (first|(go_at_call 48;exact Calls.far_all (by simp) (fun w' hb'=>hr▸QO t w' _ _ (HB.out w' hb').2.2))|(go_at_call 66;exact Calls.far_of (by simp) (hd▸Zq d _))))
  refine wpQuiet_nil ?_
  intro wq hbq
  go_wp2_with fail
  go_ret
  exact⟨Qf (by rw[chkT,hr,hd];rfl),(HB.out _ hbq).1⟩
 ·have HR:=hid (KY hr)
  have HLC:Hid ((ctxOf t.dots).length<=999999):=by have:=Zk t.dots 4;have:=Zb t;unfold Hid ctxOf;omega
  go_upto_region 1 with (fail)
  go_region_held3 (fun w'=>w'.cell? ⟨w.heap.size,0,none⟩=some (.slice A3 t.es.length n3)/\w'.cell? ⟨w.heap.size,1,none⟩=some (.slice A4 t.ks.length n4)/\w'.cell? ⟨w.heap.size+1,0,none⟩=some (.int .i64 d.dc)/\w'.cell? ⟨w.heap.size+1,1,none⟩=some (.int .i64 d.n))
   (first|go_keep|exact (HB.out _ hb4).2.1|exact (HB.out _ hb3).2.1|exact (HB.out _ hb2).2.1|exact (HB.out _ hb1).2.1)
   (first
       |(go_at_call 48;go_loud ((refine (QO t _ _ _ (HB.out _ ((Below.refl _ _).drew)).2.2).mono ?_);rw[hr];rintro e w1 ⟨rfl,hb⟩;have hb1:=((Below.refl (w.heap.size+1+1) ((w.alloc (.cells #[.slice A3 t.es.length n3,.slice A4 t.ks.length n4] 25)).alloc (.cells #[.int .i64 d.dc,.int .i64 d.n] 78))).drew).trans (hb.mono (by simp))))
       |(go_at_call 66;go_loud ((refine (Zq d w1).mono ?_);rw[hd];rintro e w2 ⟨rfl,hb⟩;have hb2:=hb1.trans (hb.mono (by have:=hb1.size;simpa using this))))
       |(go_at_call 78;go_loud ((refine (Zl t w2 _ _ (HB.out _ hb2).2.2 hN HR.out).mono ?_);rintro e w3 ⟨vd,rfl,ho,hb⟩;have hb3:=hb2.trans (hb.mono (by have:=hb2.size;simpa using this));have hsl:=ho.sl (by have:=HLC.out;unfold Big;omega)))
       |(go_at_call 60;go_loud ((refine (ZG (ctxOf t.dots) d _ w3 hsl HLC.out).mono ?_);rintro e w4 ⟨rfl,hb⟩;have hb4:=hb3.trans (hb.mono (by have:=hb3.size;simpa using this)))))
  go_wp2_with fail
  go_ret
  exact⟨Qf (by rw[chkT,hr,hd];rfl),(HB.out _ hb4).1⟩
theorem qXa (d:Dt)(c:List Sp)(vc:Value)(w:World)(hd:d.Ok)(h:SlP w w.heap.size 3 SpE vc c)(hN:c.length<=50000)(hR:SpsOk c)(hR':SpsOk [⟨d.dc,d.n,d.n⟩]) :
  Calls Tryz.prog 105 #[.agg #[.int .i64 d.dc,.int .i64 d.n],vc] w (RetC w (.mk [] []) (ctxBy c [⟨d.dc,d.n,d.n⟩] 0)):=by
 have hb0:Below w.heap.size w ((w.alloc (.cells #[.int .i64 d.dc,.int .i64 d.n] 78)).alloc (.cells #[.slice none 0 0,.slice none 0 0,.slice none 0 0] 29)):=((Below.refl _ w).alloc (Nat.le_refl _) _).alloc (by simp) _
 obtain⟨A,n,rfl,p1,p2,p3⟩:=h
 have hp:SlP w w.heap.size 3 SpE (.slice A c.length n) c:=⟨A,n,rfl,p1,p2,p3⟩
 go_enter Tryz.func105,Tryz.ntmps105
 go_wp2_with (first|(go_at_call 151;go_loud ((refine (KP d _ hd).mono ?_);rintro e w1 ⟨v1,rfl,ho,hb1⟩;have hsl:=ho.sl (by simp[Big]);obtain⟨A1,c1,hv1⟩:=ho.shape;subst hv1;have hb1':=hb0.trans (hb1.mono (by simp;omega));have hs1:=hb1.size;simp only[World.size_alloc]at hs1;have hg:=(hb1.block (w.heap.size+1) (by simp)).trans (Qd (by simp))))|(go_at_call 110;go_loud ((refine (YC c [⟨d.dc,d.n,d.n⟩] _ _ w1 (hp.imp hb1' hb1'.size (fun _ _ _ h=>h)) hsl hN (by simp) hR hR').mono ?_);rintro e w2 ⟨v2,rfl,ho2,hb2⟩;have hg2:=hid ((hb2.block (w.heap.size+1) (by omega)).trans hg);obtain⟨A2,c2,hv2⟩:=ho2.shape;subst hv2;have k0:w2.cell? ⟨w.heap.size+1,0,none⟩=some (.slice none 0 0):=Qa (i:=0) hg2.out;have k1:w2.cell? ⟨w.heap.size+1,1,none⟩=some (.slice none 0 0):=Qa (i:=1) hg2.out;have k2:w2.cell? ⟨w.heap.size+1,2,none⟩=some (.slice none 0 0):=Qa (i:=2) hg2.out;have z0:=Qb (i:=0) hg2.out;have z1:=Qb (i:=1) hg2.out;have z2:=Qb (i:=2) hg2.out)))
 obtain⟨r0,r1,r2,hK,hS⟩:=box3 hg2.out (.slice none 0 0) (.slice none 0 0) (.slice A2 (ctxBy c [⟨d.dc,d.n,d.n⟩] 0).length c2)
 have hs2:=hb2.size
 have hBW:=(((hb1'.trans (hb2.mono hb1'.size)).setCell (p:=⟨w.heap.size+1,0,none⟩) (by simp) (.slice none 0 0)).setCell (p:=⟨w.heap.size+1,1,none⟩) (by simp) (.slice none 0 0)).setCell (p:=⟨w.heap.size+1,2,none⟩) (by simp) (.slice A2 (ctxBy c [⟨d.dc,d.n,d.n⟩] 0).length c2)
 refine bodyPost_ret (v:=.agg #[.slice none 0 0,.slice none 0 0,.slice A2 (ctxBy c [⟨d.dc,d.n,d.n⟩] 0).length c2]) (by simp[results,Tryz.results105,go_sem,r0,r1,r2]) rfl ⟨_,_,_,rfl,Qp _ _,?_,hBW⟩
 refine (ho2.sla (by have:=Zj c [⟨d.dc,d.n,d.n⟩] 0 4;unfold ctxBy Big;simp at this;omega)).up (fun b hb=>hK b (by have:=hb.1;omega)) (fun b hb=>⟨by have:=hb.1;omega,by rw[hS];exact hb.2.1⟩) (fun _ _ _ h=>h)
theorem Scr.put {base:Nat}{w w':World}{b o n i:Nat}{u:Value}(h:Scr base w w')(hp:Plain w' b o n)(hb:base<=b)(hlt:b<w'.heap.size)(hi:i<n)(hu:Zw u=false) :
  Scr base w (w'.setCell ⟨b,o+i,none⟩ u)/\Plain (w'.setCell ⟨b,o+i,none⟩ u) b o n/\b<(w'.setCell ⟨b,o+i,none⟩ u).heap.size:=by
 obtain⟨v,e1,e2⟩:=hp i hi
 have hc:∀ v,w'.cell? ⟨b,o+i,none⟩=some v->Zw v=false:=fun v' hv=>by rw[e1]at hv;cases hv;exact e2
 exact⟨h.set hb hc hu,hp.scr ((Scr.refl base w').set hb hc hu) hlt,by simp[World.setCell];exact hlt⟩
theorem qQ7 (t:Tr):∀ (w:World) (ve vk:Value) (base:Nat) (ok:Nat->Prop),base<=w.heap.size->(∀ b,ok b->base<=b/\b<w.heap.size)->t.shp w ok ve vk ->
  Calls Tryz.prog 17 #[.agg #[ve,vk]] w fun e w'=>e=.returned (.tuple #[])/\Scr base w w':=by
 induction t using Tr.ind with
 |h es ks ih=>
 intro w ve vk base ok hbase hok h
 have HH:=hid h
 rw[Ya]at h
 obtain⟨⟨A1,n,rfl,a1,a2,_⟩,⟨A2,m,rfl,c1,c2,_⟩⟩:=h
 unfold Big at a2 c2
 have HX:Hid (∀ W,Scr base (w.alloc (.cells #[.slice A1 es.length n,.slice A2 ks.length m] 25)) W->Scr base w W/\w.heap.size+1<=W.heap.size/\W.cell? ⟨w.heap.size,0,none⟩=some (.slice A1 es.length n)/\W.cell? ⟨w.heap.size,1,none⟩=some (.slice A2 ks.length m)):=fun W hW=>by
  have s0:Scr base w (w.alloc (.cells #[.slice A1 es.length n,.slice A2 ks.length m] 25)):=Scr.of ((Below.refl _ w).alloc (Nat.le_refl _) _) hbase
  refine⟨s0.trans hW,by have:=hW.below.size;simpa using this,?_,?_⟩
  ·obtain⟨v,e1,_,e3⟩:=hW.cell w.heap.size 0 (.slice A1 es.length n) (by simp) (by simp)
   rw[e1,e3 rfl]
  ·obtain⟨v,e1,_,e3⟩:=hW.cell w.heap.size 1 (.slice A2 ks.length m) (by simp) (by simp)
   rw[e1,e3 rfl]
 have HE:Hid (∀ W,Scr base (w.alloc (.cells #[.slice A1 es.length n,.slice A2 ks.length m] 25)) W->es≠[]->∃ b off,A1=some ⟨b,off,none⟩/\base<=b/\b<w.heap.size/\UFb W b/\Plain W b off (es.length*4)):=fun W hW hn=>by
  have h1:=JX (HX.out W hW).1 (fun b hb=>(hok b hb).2) _ _ _ HH.out
  rw[Ya]at h1
  obtain⟨⟨A,c,e,_,_,h2⟩,_⟩:=h1
  simp only[Value.slice.injEq]at e
  obtain⟨rfl,_,rfl⟩:=e
  obtain⟨b,off,e,ho,hu,hp⟩:=h2 hn
  exact⟨b,off,e,(hok b ho).1,(hok b ho).2,hu,hp⟩
 have HKd:Hid (∀ W,Scr base (w.alloc (.cells #[.slice A1 es.length n,.slice A2 ks.length m] 25)) W->ks≠[]->∃ b off,A2=some ⟨b,off,none⟩/\base<=b/\b<w.heap.size/\UFb W b/\∀ (j:Nat) (x:Kd),ks[j]?=some x->KidS W ok b (off+j*3) x.2):=fun W hW hn=>by
  have h1:=JX (HX.out W hW).1 (fun b hb=>(hok b hb).2) _ _ _ HH.out
  rw[Ya]at h1
  obtain⟨_,⟨A,c,e,_,_,h2⟩⟩:=h1
  simp only[Value.slice.injEq]at e
  obtain⟨rfl,_,rfl⟩:=e
  obtain⟨b,off,e,ho,hu,hp⟩:=h2 hn
  exact⟨b,off,e,(hok b ho).1,(hok b ho).2,hu,hp⟩
 have HIH:=hid ih
 have HOK:=hid hok
 clear ih hok
 go_enter Tryz.func17,Tryz.ntmps17
 go_wp2_with fail
 go_loopw [7] (fun i wr=>∃ k:Nat,k<=es.length/\i=.int .i64 k/\Scr base (w.alloc (.cells #[.slice A1 es.length n,.slice A2 ks.length m] 25)) wr) (fun i _=>es.length-(intOf i).toNat)
 case atStart=>exact⟨0,Nat.zero_le _,rfl,Scr.refl _ _⟩
 case round=>
  obtain⟨k,hk,rfl,hS⟩:=hrel
  have HS:=hid hS
  obtain⟨_,hsz,b0,b1⟩:=HX.out wr hS
  by_cases hlt:k<es.length
  ·have hki:(k:Int)<(es.length:Int):=by omega
   obtain⟨b,off,rfl,hb0,hbB,hu,hp⟩:=HE.out wr hS (by rintro rfl;simp at hlt)
   obtain⟨u0,p0,_⟩:=hp (k*4) (by omega)
   obtain⟨u1,p1,_⟩:=hp (k*4+1) (by omega)
   obtain⟨u2,p2,_⟩:=hp (k*4+2) (by omega)
   obtain⟨u3,p3,_⟩:=hp (k*4+3) (by omega)
   have p1':wr.cell? ⟨b,off+k*4+1,none⟩=some u1:=p1
   have p2':wr.cell? ⟨b,off+k*4+2,none⟩=some u2:=p2
   have p3':wr.cell? ⟨b,off+k*4+3,none⟩=some u3:=p3
   have f0:=hu (off+k*4)
   have f1:=hu (off+k*4+1)
   have f2:=hu (off+k*4+2)
   have f3:=hu (off+k*4+3)
   have HP:=hid hp
   have hbw:b<wr.heap.size:=by omega
   clear p1 p2 p3 hu hp hS
   go_wp2_with fail
   go_roundw
   case rel=>
    refine⟨k+1,by omega,by go_num,?_⟩
    have s1:=HS.out.put HP.out hb0 hbw (i:=k*4) (u:=.int .i64 0) (by omega) rfl
    have s2:=s1.1.put s1.2.1 hb0 s1.2.2 (i:=k*4+1) (u:=.int .i64 0) (by omega) rfl
    have s3:=s2.1.put s2.2.1 hb0 s2.2.2 (i:=k*4+2) (u:=.string ⟨#[115,99,114,105,98,98,108,101]⟩) (by omega) rfl
    exact (s3.1.put s3.2.1 hb0 s3.2.2 (i:=k*4+3) (u:=.int .i64 0) (by omega) rfl).1
   case measure=>simp[intOf];omega
  ·have hki:¬(k:Int)<(es.length:Int):=by omega
   clear hS
   go_wp2_with fail
   go_loopw [19] (fun i wr=>∃ k:Nat,k<=ks.length/\i=.int .i64 k/\Scr base (w.alloc (.cells #[.slice A1 es.length n,.slice A2 ks.length m] 25)) wr) (fun i _=>ks.length-(intOf i).toNat)
   case atStart=>exact⟨0,Nat.zero_le _,rfl,HS.out⟩
   case round=>
    clear b0 b1 hsz
    obtain⟨j,hj,rfl,hS⟩:=hrel
    have HS2:=hid hS
    obtain⟨_,hsz,b0,b1⟩:=HX.out _ hS
    by_cases hltj:j<ks.length
    ·have hji:(j:Int)<(ks.length:Int):=by omega
     obtain⟨⟨key,t⟩,hx⟩:∃ x,ks[j]?=some x:=⟨_,List.getElem?_eq_getElem hltj⟩
     obtain⟨b,off,rfl,hb0,hbB,hu,hp⟩:=HKd.out _ hS (by rintro rfl;simp at hltj)
     obtain⟨u0,ve',vk',p0,q0,p1,p2,hsh⟩:=hp j _ hx
     obtain⟨A5,n5,A6,n6,rfl,rfl⟩:=JW hsh
     have hIH:=hid (HIH.out key t (List.mem_of_getElem? hx) _ _ _ base ok (by omega) (fun b hb=>⟨(HOK.out b hb).1,by have:=(HOK.out b hb).2;omega⟩) hsh)
     have HXX:=hid hx
     have HQ0:=hid q0
     clear hx hp hu hsh p0 q0 hS
     go_wp2_with fail
     refine hIH.out.mono ?_
     rintro e w5 ⟨rfl,hS5⟩
     have HS5:=hid (HS2.out.trans hS5)
     clear b0 b1 p1 p2 hsz
     obtain⟨_,hsz,b0,b1⟩:=HX.out _ HS5.out
     obtain⟨b',off',e',_,_,hu,hp⟩:=HKd.out _ HS5.out (by rintro rfl;simp at hltj)
     cases e'
     obtain⟨u1,_,_,p0,q1,_,_,_⟩:=hp j _ HXX.out
     have f0:=hu (off+j*3)
     have HQ1:=hid q1
     have HP0:=hid p0
     clear hu hp hS5 q1
     go_wp2_with fail
     go_roundw
     case rel=>
      refine⟨j+1,by omega,by go_num,HS5.out.set hb0 (fun v hv=>?_) rfl⟩
      rw[HP0.out]at hv
      cases hv
      exact HQ1.out
     case measure=>simp[intOf];omega
    ·have hji:¬(j:Int)<(ks.length:Int):=by omega
     clear hS
     go_wp2_with fail
     exact⟨rfl,.tuple #[],by simp[results,Tryz.results17,go_sem],rfl,(HX.out _ HS2.out).1⟩
structure ScrD (base:Nat)(D:Nat->Prop)(w w':World):Prop where
 s:Scr base w w'
 kd:∀ b,b<w.heap.size->¬D b->w'.heap[b]?=w.heap[b]?
theorem ScrD.refl (base:Nat)(D:Nat->Prop)(w:World):ScrD base D w w:=⟨Scr.refl _ _,fun _ _ _=>rfl⟩
theorem ScrD.trans {base:Nat}{D:Nat->Prop}{a b c:World}(h:ScrD base D a b)(k:ScrD base D b c):ScrD base D a c:=
 ⟨h.s.trans k.s,fun q hq hd=>(k.kd q (Nat.lt_of_lt_of_le hq h.s.below.size) hd).trans (h.kd q hq hd)⟩
theorem ScrD.of {base:Nat}{D:Nat->Prop}{w w':World}(h:Below w.heap.size w w')(hb:base<=w.heap.size):ScrD base D w w':=⟨Scr.of h hb,fun b hb' _=>h.block b hb'⟩
theorem ScrD.set {base:Nat}{D:Nat->Prop}{w w':World}(h:ScrD base D w w'){b o:Nat}{u:Value}(hD:D b)(hb:base<=b)(hc:∀ v,w'.cell? ⟨b,o,none⟩=some v->Zw v=false)(hu:Zw u=false):ScrD base D w (w'.setCell ⟨b,o,none⟩ u):=
 ⟨h.s.set hb hc hu,fun q hq hd=>(Below.heap_setCell _ _ _ _ (by intro e;exact hd (e▸hD))).trans (h.kd q hq hd)⟩
theorem ScrD.put {base:Nat}{D:Nat->Prop}{w w':World}{b o n i:Nat}{u:Value}(h:ScrD base D w w')(hp:Plain w' b o n)(hD:D b)(hb:base<=b)(hlt:b<w'.heap.size)(hi:i<n)(hu:Zw u=false) :
  ScrD base D w (w'.setCell ⟨b,o+i,none⟩ u)/\Plain (w'.setCell ⟨b,o+i,none⟩ u) b o n/\b<(w'.setCell ⟨b,o+i,none⟩ u).heap.size:=
 ⟨⟨(h.s.put hp hb hlt hi hu).1,fun q hq hd=>(Below.heap_setCell _ _ _ _ (by intro e;exact hd (e▸hD))).trans (h.kd q hq hd)⟩,(h.s.put hp hb hlt hi hu).2⟩
theorem VL (t:Tr):∀ (w:World) (ve vk:Value) (base:Nat) (ok:Nat->Prop),base<=w.heap.size->(∀ b,ok b->base<=b/\b<w.heap.size)->t.shp w ok ve vk ->
  Calls Tryz.prog 17 #[.agg #[ve,vk]] w fun e w'=>e=.returned (.tuple #[])/\ScrD base ok w w':=by
 induction t using Tr.ind with
 |h es ks ih=>
 intro w ve vk base ok hbase hok h
 have HH:=hid h
 rw[Ya]at h
 obtain⟨⟨A1,n,rfl,a1,a2,_⟩,⟨A2,m,rfl,c1,c2,_⟩⟩:=h
 unfold Big at a2 c2
 have HX:Hid (∀ W,ScrD base ok (w.alloc (.cells #[.slice A1 es.length n,.slice A2 ks.length m] 25)) W->ScrD base ok w W/\w.heap.size+1<=W.heap.size/\W.cell? ⟨w.heap.size,0,none⟩=some (.slice A1 es.length n)/\W.cell? ⟨w.heap.size,1,none⟩=some (.slice A2 ks.length m)):=fun W hW=>by
  have s0:ScrD base ok w (w.alloc (.cells #[.slice A1 es.length n,.slice A2 ks.length m] 25)):=ScrD.of ((Below.refl _ w).alloc (Nat.le_refl _) _) hbase
  refine⟨s0.trans hW,by have:=hW.s.below.size;simpa using this,?_,?_⟩
  ·obtain⟨v,e1,_,e3⟩:=hW.s.cell w.heap.size 0 (.slice A1 es.length n) (by simp) (by simp)
   rw[e1,e3 rfl]
  ·obtain⟨v,e1,_,e3⟩:=hW.s.cell w.heap.size 1 (.slice A2 ks.length m) (by simp) (by simp)
   rw[e1,e3 rfl]
 have HE:Hid (∀ W,ScrD base ok (w.alloc (.cells #[.slice A1 es.length n,.slice A2 ks.length m] 25)) W->es≠[]->∃ b off,A1=some ⟨b,off,none⟩/\ok b/\base<=b/\b<w.heap.size/\UFb W b/\Plain W b off (es.length*4)):=fun W hW hn=>by
  have h1:=JX (HX.out W hW).1.s (fun b hb=>(hok b hb).2) _ _ _ HH.out
  rw[Ya]at h1
  obtain⟨⟨A,c,e,_,_,h2⟩,_⟩:=h1
  simp only[Value.slice.injEq]at e
  obtain⟨rfl,_,rfl⟩:=e
  obtain⟨b,off,e,ho,hu,hp⟩:=h2 hn
  exact⟨b,off,e,ho,(hok b ho).1,(hok b ho).2,hu,hp⟩
 have HKd:Hid (∀ W,ScrD base ok (w.alloc (.cells #[.slice A1 es.length n,.slice A2 ks.length m] 25)) W->ks≠[]->∃ b off,A2=some ⟨b,off,none⟩/\ok b/\base<=b/\b<w.heap.size/\UFb W b/\∀ (j:Nat) (x:Kd),ks[j]?=some x->KidS W ok b (off+j*3) x.2):=fun W hW hn=>by
  have h1:=JX (HX.out W hW).1.s (fun b hb=>(hok b hb).2) _ _ _ HH.out
  rw[Ya]at h1
  obtain⟨_,⟨A,c,e,_,_,h2⟩⟩:=h1
  simp only[Value.slice.injEq]at e
  obtain⟨rfl,_,rfl⟩:=e
  obtain⟨b,off,e,ho,hu,hp⟩:=h2 hn
  exact⟨b,off,e,ho,(hok b ho).1,(hok b ho).2,hu,hp⟩
 have HIH:=hid ih
 have HOK:=hid hok
 clear ih hok
 go_enter Tryz.func17,Tryz.ntmps17
 go_wp2_with fail
 go_loopw [7] (fun i wr=>∃ k:Nat,k<=es.length/\i=.int .i64 k/\ScrD base ok (w.alloc (.cells #[.slice A1 es.length n,.slice A2 ks.length m] 25)) wr) (fun i _=>es.length-(intOf i).toNat)
 case atStart=>exact⟨0,Nat.zero_le _,rfl,ScrD.refl _ _ _⟩
 case round=>
  obtain⟨k,hk,rfl,hS⟩:=hrel
  have HS:=hid hS
  obtain⟨_,hsz,b0,b1⟩:=HX.out wr hS
  by_cases hlt:k<es.length
  ·have hki:(k:Int)<(es.length:Int):=by omega
   obtain⟨b,off,rfl,hoB,hb0,hbB,hu,hp⟩:=HE.out wr hS (by rintro rfl;simp at hlt)
   obtain⟨u0,p0,_⟩:=hp (k*4) (by omega)
   obtain⟨u1,p1,_⟩:=hp (k*4+1) (by omega)
   obtain⟨u2,p2,_⟩:=hp (k*4+2) (by omega)
   obtain⟨u3,p3,_⟩:=hp (k*4+3) (by omega)
   have p1':wr.cell? ⟨b,off+k*4+1,none⟩=some u1:=p1
   have p2':wr.cell? ⟨b,off+k*4+2,none⟩=some u2:=p2
   have p3':wr.cell? ⟨b,off+k*4+3,none⟩=some u3:=p3
   have f0:=hu (off+k*4)
   have f1:=hu (off+k*4+1)
   have f2:=hu (off+k*4+2)
   have f3:=hu (off+k*4+3)
   have HP:=hid hp
   have hbw:b<wr.heap.size:=by omega
   clear p1 p2 p3 hu hp hS
   go_wp2_with fail
   go_roundw
   case rel=>
    refine⟨k+1,by omega,by go_num,?_⟩
    have s1:=HS.out.put HP.out hoB hb0 hbw (i:=k*4) (u:=.int .i64 0) (by omega) rfl
    have s2:=s1.1.put s1.2.1 hoB hb0 s1.2.2 (i:=k*4+1) (u:=.int .i64 0) (by omega) rfl
    have s3:=s2.1.put s2.2.1 hoB hb0 s2.2.2 (i:=k*4+2) (u:=.string ⟨#[115,99,114,105,98,98,108,101]⟩) (by omega) rfl
    exact (s3.1.put s3.2.1 hoB hb0 s3.2.2 (i:=k*4+3) (u:=.int .i64 0) (by omega) rfl).1
   case measure=>simp[intOf];omega
  ·have hki:¬(k:Int)<(es.length:Int):=by omega
   clear hS
   go_wp2_with fail
   go_loopw [19] (fun i wr=>∃ k:Nat,k<=ks.length/\i=.int .i64 k/\ScrD base ok (w.alloc (.cells #[.slice A1 es.length n,.slice A2 ks.length m] 25)) wr) (fun i _=>ks.length-(intOf i).toNat)
   case atStart=>exact⟨0,Nat.zero_le _,rfl,HS.out⟩
   case round=>
    clear b0 b1 hsz
    obtain⟨j,hj,rfl,hS⟩:=hrel
    have HS2:=hid hS
    obtain⟨_,hsz,b0,b1⟩:=HX.out _ hS
    by_cases hltj:j<ks.length
    ·have hji:(j:Int)<(ks.length:Int):=by omega
     obtain⟨⟨key,t⟩,hx⟩:∃ x,ks[j]?=some x:=⟨_,List.getElem?_eq_getElem hltj⟩
     obtain⟨b,off,rfl,hoB,hb0,hbB,hu,hp⟩:=HKd.out _ hS (by rintro rfl;simp at hltj)
     obtain⟨u0,ve',vk',p0,q0,p1,p2,hsh⟩:=hp j _ hx
     obtain⟨A5,n5,A6,n6,rfl,rfl⟩:=JW hsh
     have hIH:=hid (HIH.out key t (List.mem_of_getElem? hx) _ _ _ base ok (by omega) (fun b hb=>⟨(HOK.out b hb).1,by have:=(HOK.out b hb).2;omega⟩) hsh)
     have HXX:=hid hx
     have HQ0:=hid q0
     clear hx hp hu hsh p0 q0 hS
     go_wp2_with fail
     refine hIH.out.mono ?_
     rintro e w5 ⟨rfl,hS5⟩
     have HS5:=hid (HS2.out.trans hS5)
     clear b0 b1 p1 p2 hsz
     obtain⟨_,hsz,b0,b1⟩:=HX.out _ HS5.out
     obtain⟨b',off',e',_,_,_,hu,hp⟩:=HKd.out _ HS5.out (by rintro rfl;simp at hltj)
     cases e'
     obtain⟨u1,_,_,p0,q1,_,_,_⟩:=hp j _ HXX.out
     have f0:=hu (off+j*3)
     have HQ1:=hid q1
     have HP0:=hid p0
     clear hu hp hS5 q1
     go_wp2_with fail
     go_roundw
     case rel=>
      refine⟨j+1,by omega,by go_num,HS5.out.set hoB hb0 (fun v hv=>?_) rfl⟩
      rw[HP0.out]at hv
      cases hv
      exact HQ1.out
     case measure=>simp[intOf];omega
    ·have hji:¬(j:Int)<(ks.length:Int):=by omega
     clear hS
     go_wp2_with fail
     exact⟨rfl,.tuple #[],by simp[results,Tryz.results17,go_sem],rfl,(HX.out _ HS2.out).1⟩
def RetG (w:World)(e:Ending)(w':World):Prop:=∃ v,e=.returned v/\OwnP w' w.heap.size 167 2 RuE v []/\Below w.heap.size w w'
theorem zQd (n:Nat)(w:World)(hn:n<=900000):Calls Tryz.prog 208 #[.slice none 0 0,.int .i64 n] w (RetG w):=by
 rcases Nat.eq_zero_or_pos n with rfl|hp
 ·go_enter Tryz.func208,Tryz.ntmps208
  go_wp2_with fail
  go_ret
  exact⟨_,rfl,OwnP.nil,Below.refl _ _⟩
 ·have ht:=Tryz.underlying160
  obtain⟨i,hi,hz,hs,hby⟩:=info_parts (show (Tryz.prog.info? 167).map (fun i=>(i.zero,i.size,i.bytes))=some (some (.agg #[.int .i64 0,.int .i64 0]),2,16) by kernel_rfl)
  have hold:(Builtin.firstCells i.size 0 (.slice none 0 0)).run Tryz.prog w.drew=.ok (#[]:Array Value) w.drew:=run_firstCells_none w.drew i.size 0 0 0
  have hrz:∀ ty,(Builtin.append_ #[160,3] ty #[.slice none 0 0,.int .i64 (n:Int)]).run Tryz.prog w=.ok (.slice (some ⟨w.heap.size,0,none⟩) n (grownCap w n 0 167)) (w.drew.alloc (.cells (#[]++Builtin.zeroCells #[.int .i64 0,.int .i64 0] n++Builtin.zeroCells #[.int .i64 0,.int .i64 0] (grownCap w n 0 167-n)) 167)):=fun ty=>by
   have h:=Lib.run_append_grow_zeros w 160 3 ty 167 i (.agg #[.int .i64 0,.int .i64 0]) .i64 .i64 ht Tryz.underlying3 hi hz none 0 0 [] hold n hp (by omega) (by omega) (by omega) (by rw[hby];omega) (by rw[hby,Nat.zero_add];exact growslice_fits hp (by omega))
   simpa[Value.cells] using h
  have hge:=grownCap_ge w n 0 167
  have hle:=grownCap_le_maxLen w n 0 167 (by unfold maxLen;omega)
  generalize grownCap w n 0 167=G at *
  have hG63:G<=9223372036854775807:=by unfold maxLen at hle;omega
  have HLE:=hid hle
  clear hle hold ht hi hz hs hby
  go_enter Tryz.func208,Tryz.ntmps208
  go_wp2_with (at_builtin;refine Lib.wpList_append_run _ rfl _ _ _ _ rfl _ _ rfl rfl _ _ (hrz _) ?_)
  all_goals
   go_ret
   refine⟨_,rfl,⟨[],⟨rfl,fun j x h=>by simp at h⟩,by simp,.inr ⟨w.heap.size,G,_,rfl,Nat.le_refl _,heap_alloc_new _ _,Nat.zero_le _,HLE.out,?_,by simp⟩⟩,((Below.refl w.heap.size w).drew).alloc (Nat.le_refl _) _⟩
   simp[size_zeroCells]
   omega
def catK {α:Type}(a b:List α):Nat->List α|0=>[]|1=>a|_+2=>a++b
theorem qJo (a b:List (Int×Int))(va vb:Value)(B:Nat)(w:World)(h0:w.cell? ⟨B,0,none⟩=some va)(h1:w.cell? ⟨B,1,none⟩=some vb)(hB:B<w.heap.size)(ha:SlP w w.heap.size 2 RuE va a)(hb:SlP w w.heap.size 2 RuE vb b)(hN:a.length<=300000)(hN':b.length<=300000) :
  Calls Tryz.prog 182 #[.slice (some ⟨B,0,none⟩) 2 2] w (RetO w 167 2 (fun _=>RuE) (a++b)):=by
 have HA:=hid ha
 have HB:=hid hb
 obtain⟨A1,c1,rfl,_⟩:=ha
 obtain⟨A2,c2,rfl,_⟩:=hb
 have hla:((catK a b 2).length:Int)=a.length+b.length:=by simp[catK]
 go_enter Tryz.func182,Tryz.ntmps182
 go_wp2_with fail
 go_loop [3,11] (fun s i=>∃ k:Nat,k<=2/\i=.int .i64 k/\s=.int .i64 ((catK a b k).length:Nat)) (fun _ i=>2-(intOf i).toNat)
 case atStart=>exact⟨0,by omega,rfl,rfl⟩
 case round=>
  obtain⟨k,hk,rfl,rfl⟩:=hrel
  match k,hk with
  |0,_=>
   clear hla
   simp only[catK,List.length_nil]
   go_wp2_with fail
   go_round
   case rel=>exact⟨1,by omega,rfl,by simp⟩
   case measure=>simp[intOf]
  |1,_=>
   clear hla
   simp only[catK]
   go_wp2_with fail
   go_round
   case rel=>exact⟨2,by omega,rfl,by simp⟩
   case measure=>simp[intOf]
  |2,_=>
   obtain⟨m,hm⟩:∃ m:Nat,m=(catK a b 2).length:=⟨_,rfl⟩
   rw[←hm]at hla ⊢
   have hm2:m<=600000:=by omega
   clear hla hm
   go_wp2_with fail
   refine (zQd m w (by omega)).mono ?_
   rintro e w1 ⟨v1,rfl,ho1,hb1⟩
   have hs1:=hb1.size
   go_wp2_with fail
   go_loopw [6,27] (fun v i wr=>∃ k:Nat,k<=2/\i=.int .i64 k/\OwnP wr w.heap.size 167 2 RuE v (catK a b k)/\Below w.heap.size w wr) (fun _ i _=>2-(intOf i).toNat)
   case atStart=>exact⟨0,by omega,rfl,ho1,hb1⟩
   case round=>
    obtain⟨k,hk,rfl,hown,hbr⟩:=hrel
    have hsz:=hbr.size
    have e0:wr.cell? ⟨B,0,none⟩=some (.slice A1 a.length c1):=(hbr.cell (p:=⟨B,0,none⟩) hB).trans h0
    have e1:wr.cell? ⟨B,1,none⟩=some (.slice A2 b.length c2):=(hbr.cell (p:=⟨B,1,none⟩) hB).trans h1
    have HSA:=hid (HA.out.imp hbr hsz fun _ _ _ h=>h)
    have HSB:=hid (HB.out.imp hbr hsz fun _ _ _ h=>h)
    match k,hk with
    |0,_=>
     have HL:Hid ((catK a b 0).length+a.length<=Few):=by unfold Hid Few;simp[catK];omega
     go_wp2_with (at_builtin;refine Qk rfl (.tmp 31) (.tmp 32) _ rfl eiRun (by decide) (by decide) (fun _ _ h=>h.one) rfl hown rfl HSA.out HL.out hsz ?_;intro v2 w2 hown2 hb2 _)
     go_roundw
     case rel=>exact⟨1,by omega,rfl,by simpa[catK] using hown2,hbr.trans hb2⟩
     case measure=>simp[intOf]
    |1,_=>
     have HL:Hid ((catK a b 1).length+b.length<=Few):=by unfold Hid Few;simp[catK];omega
     go_wp2_with (at_builtin;refine Qk rfl (.tmp 31) (.tmp 32) _ rfl eiRun (by decide) (by decide) (fun _ _ h=>h.one) rfl hown rfl HSB.out HL.out hsz ?_;intro v2 w2 hown2 hb2 _)
     go_roundw
     case rel=>exact⟨2,by omega,rfl,by simpa[catK] using hown2,hbr.trans hb2⟩
     case measure=>simp[intOf]
    |2,_=>
     go_wp2_with fail
     go_ret
     exact⟨_,rfl,hown,hbr⟩
theorem OwnP.zero {α:Type}{w:World}{base n:Nat}{e:TypeId}{sz:Nat}{E:α->List Value->Prop}(h:w.heap[n]?=some (.cells #[] e (0,0)))(hb:base<=n):OwnP w base e sz E (.slice (some ⟨n,0,none⟩) 0 0) ([]:List α):=
 ⟨[],⟨rfl,fun j y hy=>by simp at hy⟩,by simp,.inr ⟨n,0,#[],rfl,hb,h,Nat.le_refl _,by simp[maxLen],by simp,by simp⟩⟩
theorem qJp (xs:List _)(v:Value)(w:World)(h:SlP w w.heap.size 4 EnE v xs)(hN:xs.length<=Few) :
  Calls Tryz.prog 119 #[v] w (RetO w 80 4 (fun _=>EnE) xs):=by
 have H:=hid h
 have q:∀ (w:World) (a:Option Addr) (n c n' c':Nat),(binOp .eql 22 (.slice a n c) (.slice none n' c')).run Tryz.prog w=.ok (.bool a.isNone) w:=fun w a n c n' c'=>Lib.run_eql_slice_nil w _ _ a n c n' c' Tryz.underlying22
 obtain⟨A,c,rfl,h1,h2,h3⟩:=h
 cases A with
 |none=>
  have hz:xs=[]:=by
   rcases xs with _|⟨x,xs⟩
   ·rfl
   ·obtain⟨b,off,e,_⟩:=h3 (by simp);cases e
  subst hz
  go_enter Tryz.func119,Tryz.ntmps119
  go_wp2_with fail
  go_ret
  exact⟨_,rfl,OwnP.nil,Below.refl _ _⟩
 |some a=>
  have HN:=hid hN
  clear h1 h2 h3
  go_enter Tryz.func119,Tryz.ntmps119
  go_wp2_with (at_builtin;go_loud (refine Qk rfl (.tmp 5) (.tmp 6) _ rfl Yy (by decide) (by decide) (fun _ _ h=>h.one) rfl (OwnP.zero (base:=w.heap.size) (Qd rfl) (Nat.le_refl _)) rfl (H.out.imp ((Below.refl _ w).alloc (Nat.le_refl _) _) (Nat.le_refl _) fun _ _ _ h=>h) (by simpa using HN.out) (by simp) ?_);intro v2 w2 hown2 hb2 _)
  go_ret
  exact⟨_,rfl,by simpa using hown2,((Below.refl _ w).alloc (Nat.le_refl _) _).trans hb2⟩
theorem YU (xs:List _)(v:Value)(w:World)(h:SlP w w.heap.size 3 SpE v xs)(hN:xs.length<=Few) :
  Calls Tryz.prog 37 #[v] w (RetO w 45 3 (fun _=>SpE) xs):=by
 have H:=hid h
 have q:∀ (w:World) (a:Option Addr) (n c n' c':Nat),(binOp .eql 27 (.slice a n c) (.slice none n' c')).run Tryz.prog w=.ok (.bool a.isNone) w:=fun w a n c n' c'=>Lib.run_eql_slice_nil w _ _ a n c n' c' Tryz.underlying27
 obtain⟨A,c,rfl,h1,h2,h3⟩:=h
 cases A with
 |none=>
  have hz:xs=[]:=by
   rcases xs with _|⟨x,xs⟩
   ·rfl
   ·obtain⟨b,off,e,_⟩:=h3 (by simp);cases e
  subst hz
  go_enter Tryz.func37,Tryz.ntmps37
  go_wp2_with fail
  go_ret
  exact⟨_,rfl,OwnP.nil,Below.refl _ _⟩
 |some a=>
  have HN:=hid hN
  clear h1 h2 h3
  go_enter Tryz.func37,Tryz.ntmps37
  go_wp2_with (at_builtin;go_loud (refine Qk rfl (.tmp 5) (.tmp 6) _ rfl JF (by decide) (by decide) (fun _ _ h=>h.one) rfl (OwnP.zero (base:=w.heap.size) (Qd rfl) (Nat.le_refl _)) rfl (H.out.imp ((Below.refl _ w).alloc (Nat.le_refl _) _) (Nat.le_refl _) fun _ _ _ h=>h) (by simpa using HN.out) (by simp) ?_);intro v2 w2 hown2 hb2 _)
  go_ret
  exact⟨_,rfl,by simpa using hown2,((Below.refl _ w).alloc (Nat.le_refl _) _).trans hb2⟩
theorem KdE.one {w:World}{B:Nat}{x:Kd}{cs:List Value}(h:KdE w B x cs):∀ u∈cs,u.oneCell'=true:=by
 obtain⟨ve,vk,rfl,_,h⟩:=h
 obtain⟨A,n,A',m,rfl,rfl⟩:=Qj h
 simp[Value.oneCell']
def RetGK {w0:World}(B0:Nat)(w:World)(e:Ending)(w':World):Prop:=∃ v,e=.returned v/\OwnP w' w.heap.size 96 3 (KdE w0 B0) v []/\Below w.heap.size w w'
theorem qVo (w0:World)(B0 n:Nat)(w:World)(hn:n<=900000):Calls Tryz.prog 178 #[.slice none 0 0,.int .i64 n] w (RetGK (w0:=w0) B0 w):=by
 rcases Nat.eq_zero_or_pos n with rfl|hp
 ·go_enter Tryz.func178,Tryz.ntmps178
  go_wp2_with fail
  go_ret
  exact⟨_,rfl,OwnP.nil,Below.refl _ _⟩
 ·have ht:=Tryz.underlying23
  obtain⟨i,hi,hz,hs,hby⟩:=info_parts (show (Tryz.prog.info? 96).map (fun i=>(i.zero,i.size,i.bytes))=some (some (.agg #[.string ByteArray.empty,.slice none 0 0,.slice none 0 0]),3,64) by kernel_rfl)
  have hold:(Builtin.firstCells i.size 0 (.slice none 0 0)).run Tryz.prog w.drew=.ok (#[]:Array Value) w.drew:=run_firstCells_none w.drew i.size 0 0 0
  have hrz:∀ ty,(Builtin.append_ #[23,3] ty #[.slice none 0 0,.int .i64 (n:Int)]).run Tryz.prog w=.ok (.slice (some ⟨w.heap.size,0,none⟩) n (grownCap w n 0 96)) (w.drew.alloc (.cells (#[]++Builtin.zeroCells #[.string ByteArray.empty,.slice none 0 0,.slice none 0 0] n++Builtin.zeroCells #[.string ByteArray.empty,.slice none 0 0,.slice none 0 0] (grownCap w n 0 96-n)) 96)):=fun ty=>by
   have h:=Lib.run_append_grow_zeros w 23 3 ty 96 i (.agg #[.string ByteArray.empty,.slice none 0 0,.slice none 0 0]) .i64 .i64 ht Tryz.underlying3 hi hz none 0 0 [] hold n hp (by omega) (by omega) (by omega) (by rw[hby];omega) (by rw[hby,Nat.zero_add];exact growslice_fits hp (by omega))
   simpa[Value.cells] using h
  have hge:=grownCap_ge w n 0 96
  have hle:=grownCap_le_maxLen w n 0 96 (by unfold maxLen;omega)
  generalize grownCap w n 0 96=G at *
  have hG63:G<=9223372036854775807:=by unfold maxLen at hle;omega
  have HLE:=hid hle
  clear hle hold ht hi hz hs hby
  go_enter Tryz.func178,Tryz.ntmps178
  go_wp2_with (at_builtin;refine Lib.wpList_append_run _ rfl _ _ _ _ rfl _ _ rfl rfl _ _ (hrz _) ?_)
  all_goals
   go_ret
   refine⟨_,rfl,⟨[],⟨rfl,fun j x h=>by simp at h⟩,by simp,.inr ⟨w.heap.size,G,_,rfl,Nat.le_refl _,heap_alloc_new _ _,Nat.zero_le _,HLE.out,?_,by simp⟩⟩,((Below.refl w.heap.size w).drew).alloc (Nat.le_refl _) _⟩
   simp[size_zeroCells]
   omega
theorem qZt (w0:World)(B0:Nat)(a b:List Kd)(va vb:Value)(B:Nat)(w:World)(h0:w.cell? ⟨B,0,none⟩=some va)(h1:w.cell? ⟨B,1,none⟩=some vb)(hB:B<w.heap.size)(ha:SlP w w.heap.size 3 (KdE w0 B0) va a)(hb:SlP w w.heap.size 3 (KdE w0 B0) vb b)(hN:a.length<=300000)(hN':b.length<=300000) :
  Calls Tryz.prog 155 #[.slice (some ⟨B,0,none⟩) 2 2] w (RetO w 96 3 (fun _=>KdE w0 B0) (a++b)):=by
 have HA:=hid ha
 have HB:=hid hb
 obtain⟨A1,c1,rfl,_⟩:=ha
 obtain⟨A2,c2,rfl,_⟩:=hb
 have hla:((catK a b 2).length:Int)=a.length+b.length:=by simp[catK]
 go_enter Tryz.func155,Tryz.ntmps155
 go_wp2_with fail
 go_loop [3,11] (fun s i=>∃ k:Nat,k<=2/\i=.int .i64 k/\s=.int .i64 ((catK a b k).length:Nat)) (fun _ i=>2-(intOf i).toNat)
 case atStart=>exact⟨0,by omega,rfl,rfl⟩
 case round=>
  obtain⟨k,hk,rfl,rfl⟩:=hrel
  match k,hk with
  |0,_=>
   clear hla
   simp only[catK,List.length_nil]
   go_wp2_with fail
   go_round
   case rel=>exact⟨1,by omega,rfl,by simp⟩
   case measure=>simp[intOf]
  |1,_=>
   clear hla
   simp only[catK]
   go_wp2_with fail
   go_round
   case rel=>exact⟨2,by omega,rfl,by simp⟩
   case measure=>simp[intOf]
  |2,_=>
   obtain⟨m,hm⟩:∃ m:Nat,m=(catK a b 2).length:=⟨_,rfl⟩
   rw[←hm]at hla ⊢
   have hm2:m<=600000:=by omega
   clear hla hm
   go_wp2_with fail
   refine (qVo w0 B0 m w (by omega)).mono ?_
   rintro e w1 ⟨v1,rfl,ho1,hb1⟩
   have hs1:=hb1.size
   go_wp2_with fail
   go_loopw [6,27] (fun v i wr=>∃ k:Nat,k<=2/\i=.int .i64 k/\OwnP wr w.heap.size 96 3 (KdE w0 B0) v (catK a b k)/\Below w.heap.size w wr) (fun _ i _=>2-(intOf i).toNat)
   case atStart=>exact⟨0,by omega,rfl,ho1,hb1⟩
   case round=>
    obtain⟨k,hk,rfl,hown,hbr⟩:=hrel
    have hsz:=hbr.size
    have e0:wr.cell? ⟨B,0,none⟩=some (.slice A1 a.length c1):=(hbr.cell (p:=⟨B,0,none⟩) hB).trans h0
    have e1:wr.cell? ⟨B,1,none⟩=some (.slice A2 b.length c2):=(hbr.cell (p:=⟨B,1,none⟩) hB).trans h1
    have HSA:=hid (HA.out.imp hbr hsz fun _ _ _ h=>h)
    have HSB:=hid (HB.out.imp hbr hsz fun _ _ _ h=>h)
    match k,hk with
    |0,_=>
     have HL:Hid ((catK a b 0).length+a.length<=Few):=by unfold Hid Few;simp[catK];omega
     go_wp2_with (at_builtin;refine Qk rfl (.tmp 31) (.tmp 32) _ rfl eiKid (by decide) (by decide) (fun _ _ h=>h.one) rfl hown rfl HSA.out HL.out hsz ?_;intro v2 w2 hown2 hb2 _)
     go_roundw
     case rel=>exact⟨1,by omega,rfl,by simpa[catK] using hown2,hbr.trans hb2⟩
     case measure=>simp[intOf]
    |1,_=>
     have HL:Hid ((catK a b 1).length+b.length<=Few):=by unfold Hid Few;simp[catK];omega
     go_wp2_with (at_builtin;refine Qk rfl (.tmp 31) (.tmp 32) _ rfl eiKid (by decide) (by decide) (fun _ _ h=>h.one) rfl hown rfl HSB.out HL.out hsz ?_;intro v2 w2 hown2 hb2 _)
     go_roundw
     case rel=>exact⟨2,by omega,rfl,by simpa[catK] using hown2,hbr.trans hb2⟩
     case measure=>simp[intOf]
    |2,_=>
     go_wp2_with fail
     go_ret
     exact⟨_,rfl,hown,hbr⟩
def joinS (out:List (Int×Int))(r:Int×Int):List (Int×Int):=
 match out.getLast? with
 |some q=>if r.1<=q.2+1 then out.set (out.length-1) (q.1,max q.2 r.2) else out++[r]
 |none=>[r]
def joinL (l:List (Int×Int)):List (Int×Int):=l.foldl joinS []
theorem KU {l:List (Int×Int)}{k:Nat}{x:Int×Int}(h:l[k]?=some x):joinL (l.take (k+1))=joinS (joinL (l.take k)) x:=by
 unfold joinL;rw[List.take_add_one,h,List.foldl_append];rfl
theorem qVf (out:List (Int×Int))(r:Int×Int):(joinS out r).length<=out.length+1:=by
 unfold joinS;split
 ·split<;>simp
 ·simp
theorem Xu (l:List (Int×Int)):∀ k,(joinL (l.take k)).length<=k
 |0=>by simp[joinL]
 |k+1=>by
  cases h:l[k]? with
  |none=>
   have h1:=List.getElem?_eq_none_iff.1 h
   rw[List.take_of_length_le (by omega),←List.take_of_length_le (i:=k) h1]
   have:=Xu l k
   rw[List.take_of_length_le h1]at this ⊢;omega
  |some x=>
   rw[KU h]
   have:=Xu l k
   have:=qVf (joinL (l.take k)) x
   omega
theorem zQf {out:List (Int×Int)}{r:Int×Int}(h:Zg out)(hr:0<=r.1/\r.1<=1099511627777/\0<=r.2/\r.2<=1099511627777):Zg (joinS out r):=by
 intro x hx
 unfold joinS at hx
 split at hx
 ·rename_i q hq
  split at hx
  ·rcases List.mem_or_eq_of_mem_set hx with hx|rfl
   ·exact h x hx
   ·have:=h q (List.mem_of_getLast? hq)
    refine⟨this.1,this.2.1,?_,?_⟩<;>simp only[Int.max_def]<;>split<;>omega
  ·rcases List.mem_append.1 hx with hx|hx
   ·exact h x hx
   ·simp at hx;subst hx;exact hr
 ·simp at hx;subst hx;exact hr
theorem zQg {l:List (Int×Int)}(h:Zg l):Zg (joinL l):=by
 unfold joinL
 suffices ∀ (l out:List (Int×Int)),Zg l->Zg out->Zg (l.foldl joinS out) from this l [] h (fun _ h=>by cases h)
 intro l
 induction l with
 |nil=>intro out _ ho;exact ho
 |cons x l ih=>intro out hl ho;exact ih _ (fun r hr=>hl r (List.mem_cons_of_mem _ hr)) (zQf ho (hl x (by simp)))
theorem qJq (L:List (Int×Int))(q r:Int×Int):joinS (L++[q]) r=if r.1<=q.2+1 then L++[(q.1,max q.2 r.2)] else L++[q]++[r]:=by
 unfold joinS
 rw[List.getLast?_concat]
 simp
theorem qZm {out:List (Int×Int)}{r:Int×Int}(h:runsR none out=true)(hr:runOk r)(ho:∀ q,out.getLast?=some q->q.1<=r.1) :
  runsR none (joinS out r)=true/\(∀ n,hasL (joinS out r) n=(hasL out n||inR r n))/\(∀ q,(joinS out r).getLast?=some q->q.1<=r.1):=by
 rcases List.eq_nil_or_concat out with rfl|⟨L,q,rfl⟩
 ·refine⟨?_,fun n=>?_,fun q hq=>?_⟩
  ·exact (ZM none r).2 ⟨hr,rfl⟩
  ·simp[joinS,hasL]
  ·simp[joinS]at hq;subst hq;exact Int.le_refl _
 ·rw[List.concat_eq_append]at *
  have hq:=ho q (by simp)
  have hqo:=YV L none q h
  rw[qJq]
  unfold runOk at *
  split
  ·rename_i hc
   refine⟨X6 L none q _ h (by omega) (by omega),fun n=>?_,fun x hx=>?_⟩
   ·rw[Z0,Z0,Bool.or_assoc]
    congr 1
    rw[Bool.eq_iff_iff]
    simp[hasL,inR]
    omega
   ·simp at hx;subst hx;exact hq
  ·rename_i hc
   refine⟨(X5 L none q r).2 ⟨h,hr,by omega⟩,fun n=>?_,fun x hx=>?_⟩
   ·rw[Z0];simp[hasL]
   ·simp at hx;subst hx;exact Int.le_refl _
theorem J3 {l:List (Int×Int)}(hl:∀ r∈l,runOk r)(hs:l.Pairwise fun a b=>a.1<=b.1):runsR none (joinL l)=true/\∀ n,hasL (joinL l) n=hasL l n:=by
 suffices ∀ (l out:List (Int×Int)),(∀ r∈l,runOk r)->l.Pairwise (fun a b=>a.1<=b.1)->runsR none out=true->(∀ q,out.getLast?=some q->∀ r∈l,q.1<=r.1) ->
   runsR none (l.foldl joinS out)=true/\∀ n,hasL (l.foldl joinS out) n=(hasL out n||hasL l n) by
  have:=this l [] hl hs rfl (fun q h=>by simp at h)
  exact⟨this.1,fun n=>by rw[joinL,this.2];simp[hasL]⟩
 intro l
 induction l with
 |nil=>intro out _ _ h _;exact⟨h,fun n=>by simp[hasL]⟩
 |cons r l ih=>
  intro out hl hs h ho
  rw[List.pairwise_cons]at hs
  obtain⟨j1,j2,j3⟩:=qZm h (hl r (by simp)) (fun q hq=>ho q hq r (by simp))
  obtain⟨k1,k2⟩:=ih (joinS out r) (fun x hx=>hl x (by simp[hx])) hs.2 j1 (fun q hq x hx=>Int.le_trans (j3 q hq) (hs.1 x hx))
  refine⟨k1,fun n=>?_⟩
  rw[List.foldl_cons,k2,j2,Bool.or_assoc];simp[hasL]
theorem OwnP.drewN {α:Type}{w:World}{base:Nat}{e:TypeId}{sz:Nat}{E:α->List Value->Prop}{v:Value}{xs:List α}(h:OwnP w base e sz E v xs)(n:Nat):OwnP (w.drewN n) base e sz E v xs:=h.keep fun _ _=>rfl
theorem Z1 {B:Nat}{a w:World}(h:Below B a w)(n:Nat):Below B a (w.drewN n):=h.trans ⟨rfl,rfl,rfl,Nat.le_refl _,fun _ _=>rfl⟩
theorem J4 (l:List (Int×Int))(v:Value)(w:World)(h:SlP w w.heap.size 2 RuE v l)(hN:l.length<=900000)(hR:Zg l) :
  Calls Tryz.prog 186 #[v] w (RetO w 167 2 (fun _=>RuE) (joinL l)):=by
 obtain⟨A,n,rfl,b1,b2,b3⟩:=h
 unfold Big at b2
 go_enter Tryz.func186,Tryz.ntmps186
 go_wp2_with fail
 go_loopw [3,9] (fun v i wr=>∃ k:Nat,k<=l.length/\i=.int .i64 k/\OwnP wr w.heap.size 167 2 RuE v (joinL (l.take k))/\Below w.heap.size w wr) (fun _ i _=>l.length-(intOf i).toNat)
 case atStart=>exact⟨0,Nat.zero_le _,rfl,OwnP.nil,Below.refl _ _⟩
 case round=>
  obtain⟨k,hk,rfl,hown,hb⟩:=hrel
  have hsz:=hb.size
  by_cases hlt:k<l.length
  ·obtain⟨r,hx⟩:∃ x,l[k]?=some x:=⟨_,List.getElem?_eq_getElem hlt⟩
   obtain⟨b,off,rfl,hbB,hc⟩:=b3 (by rintro rfl;simp at hlt)
   obtain⟨cs,⟨rfl,hok⟩,_,hu⟩:=hc k _ hx
   have e0:wr.cell? ⟨b,off+k*2,none⟩=some (.int .i64 r.1):=(hb.cell hbB).trans (hu 0 _ rfl)
   have e1:wr.cell? ⟨b,off+k*2+1,none⟩=some (.int .i64 r.2):=(hb.cell hbB).trans (hu 1 _ rfl)
   have hr:=hR r (List.mem_of_getElem? hx)
   have HJ:Hid (joinL (l.take (k+1))=joinS (joinL (l.take k)) r):=KU hx
   have hol:=Xu l k
   have hjo:Zg (joinL (l.take k)):=zQg fun x hx=>hR x (List.mem_of_mem_take hx)
   have HRE:Hid (RuE r [.int .i64 r.1,.int .i64 r.2]):=⟨rfl,hok⟩
   generalize joinL (l.take k)=out at *
   have HL:Hid (out.length + [r].length<=Few):=by unfold Hid Few;simp;omega
   clear hu hc b3 hx hok
   rcases Nat.eq_zero_or_pos out.length with hz|hz
   ·obtain rfl:out=[]:=List.eq_nil_of_length_eq_zero hz
    have HX:Hid (joinL (l.take (k+1))=[]++[r]):=by unfold Hid;rw[HJ.out];rfl
    obtain⟨A8,c8,rfl⟩:=hown.shape
    clear hz hol
    simp only[List.length_nil]at hown ⊢
    go_wp2_with fail
    go_quiet (fail)
    go_wp2_with (at_builtin;go_loud ((refine Qk rfl (.tmp 43) (.tmp 45) _ rfl eiRun (by decide) (by decide) (fun _ _ h=>h.one) rfl (((hown.alloc _).drewN _).alloc _) rfl (SlP.one (x:=r) HRE.out rfl _ (by rw[World.heap_drewN,World.size_alloc])) HL.out (by rw[World.size_alloc,World.heap_drewN,World.size_alloc];omega) ?_);intro v1 w1 hown1 hb1 _;have hb2:=(((Z1 ((Below.refl w.heap.size wr).alloc hsz _) _).alloc (by rw[World.heap_drewN,World.size_alloc];omega) _).trans hb1)))
    go_roundw
    case rel=>exact⟨k+1,by omega,by go_num,by rw[HX.out];exact hown1,hb.trans hb2⟩
    case measure=>simp[intOf];omega
   ·obtain⟨q,hq⟩:∃ q,out[out.length-1]?=some q:=⟨_,List.getElem?_eq_getElem (by omega)⟩
    have hqo:=hjo q (List.mem_of_getElem? hq)
    obtain⟨g,cap,rfl,hg1,hg2,c0,c1,hfz,_⟩:=hown.setRun hq (z:=max q.2 r.2) ⟨by omega,by omega⟩
    have hmx:max q.2 r.2=if q.2<r.2 then r.2 else q.2:=by split<;>omega
    have hset:∀ n,OwnP (((wr.alloc (.cells #[.int .i64 r.1,.int .i64 r.2] 167)).drewN n).setCell ⟨g,(out.length-1)*2+1,none⟩ (.int .i64 (if q.2<r.2 then r.2 else q.2))) w.heap.size 167 2 RuE (.slice (some ⟨g,0,none⟩) out.length cap) (out.set (out.length-1) (q.1,max q.2 r.2)):=fun n=>by
     rw[←hmx]
     obtain⟨g',cap',e,_,_,_,_,_,h⟩:=((hown.alloc (.cells #[.int .i64 r.1,.int .i64 r.2] 167)).drewN n).setRun hq (z:=max q.2 r.2) ⟨by omega,by omega⟩
     cases e;exact h
    have hfz1:=hfz ((out.length-1)*2+1)
    have HJS:Hid (joinS out r=if r.1<=q.2+1 then out.set (out.length-1) (q.1,max q.2 r.2) else out++[r]):=by
     unfold Hid joinS;rw[List.getLast?_eq_getElem?,hq]
    have HMX:=hid hmx
    have HS2:Hid (∀ n,OwnP (((wr.alloc (.cells #[.int .i64 r.1,.int .i64 r.2] 167)).drewN n).setCell ⟨g,(out.length-1)*2+1,none⟩ (.int .i64 (if q.2<r.2 then r.2 else q.2))) w.heap.size 167 2 RuE (.slice (some ⟨g,0,none⟩) out.length cap) (out.set (out.length-1) (q.1,if q.2<r.2 then r.2 else q.2))):=fun n=>by
     have h1:=hset n
     rw[hmx]at h1;exact h1
    clear hq hfz hjo hmx
    have h1l:(1:Int)<=(out.length:Int):=by omega
    have h2l:(out.length:Int)-1<(out.length:Int):=by omega
    have h0':decide (0<out.length)=true:=by simp;omega
    have h0'':decide ((0:Int)<(out.length:Int))=true:=by simp;omega
    have hwq:IntKind.i64.wrap (q.2+1)=q.2+1:=IntWalk.i64_in _ (by omega)
    have hwk:IntKind.i64.wrap ((out.length:Int)-1)=(out.length:Int)-1:=IntWalk.i64_in _ (by omega)
    rcases t5:decide (r.1<=q.2+1)
    ·have HX:Hid (joinL (l.take (k+1))=out++[r]):=by unfold Hid;rw[HJ.out,HJS.out,if_neg (of_decide_eq_false t5)]
     clear hset HJS HJ
     go_wp2_with fail
     go_quiet (fail)
     go_wp2_with (at_builtin;go_loud ((refine Qk rfl (.tmp 43) (.tmp 45) _ rfl eiRun (by decide) (by decide) (fun _ _ h=>h.one) rfl (((hown.alloc _).drewN _).alloc _) rfl (SlP.one (x:=r) HRE.out rfl _ (by rw[World.heap_drewN,World.size_alloc])) HL.out (by rw[World.size_alloc,World.heap_drewN,World.size_alloc];omega) ?_);intro v1 w1 hown1 hb1 _;have hb2:=(((Z1 ((Below.refl w.heap.size wr).alloc hsz _) _).alloc (by rw[World.heap_drewN,World.size_alloc];omega) _).trans hb1)))
     go_roundw
     case rel=>exact⟨k+1,by omega,by go_num,by rw[HX.out];exact hown1,hb.trans hb2⟩
     case measure=>simp[intOf];omega
    ·have HX:Hid (joinL (l.take (k+1))=out.set (out.length-1) (q.1,max q.2 r.2)):=by unfold Hid;rw[HJ.out,HJS.out,if_pos (of_decide_eq_true t5)]
     have HS:=hid hset
     clear hset HJS HJ
     go_wp2_with fail
     go_quiet (fail)
     go_wp2_with fail
     go_region
     all_goals
      go_wp2_with fail
      go_roundw
      case rel=>exact⟨k+1,by omega,by go_num,by rw[HX.out];first|exact HS.out _|exact HS2.out _|(rw[HMX.out];exact HS.out _)|(rw[HMX.out];exact HS2.out _),hb.trans ((Z1 ((Below.refl w.heap.size wr).alloc hsz _) _).setCell (by exact hg1) _)⟩
      case measure=>simp[intOf];omega
  ·obtain rfl:k=l.length:=by omega
   rw[List.take_of_length_le (Nat.le_refl _)]at hown
   go_wp2_with fail
   go_ret
   exact⟨_,rfl,hown,hb⟩
end Go.Proofs.YtbcoelggdikipaaGreat
namespace Go.Proofs
open Go.Shelf
def Tryz.sortStr_ren:Go.Shelf.Ren:=⟨fun|190=>129|125=>167|258=>166|128=>200|129=>201|302=>191|303=>192|304=>193|305=>194|306=>195|307=>196|308=>197|309=>198|310=>199|333=>211|329=>212|330=>213|334=>214|335=>215|336=>207|344=>226|n=>n,fun|31=>30|9=>9|3=>3|46=>193|0=>0|51=>226|53=>228|4=>4|183=>219|182=>218|131=>204|5=>5|218=>236|222=>240|228=>249|229=>250|n=>n,fun|n=>n⟩
theorem Tryz.sortStr:Go.Proofs.Lays.n190 Tryz.prog Tryz.sortStr_ren:={
 mixed:=by kernel_rfl
 f125:=Tryz.func167.trans (congrArg some (by kernel_rfl))
 f128:=Tryz.func200.trans (congrArg some (by kernel_rfl))
 f129:=Tryz.func201.trans (congrArg some (by kernel_rfl))
 f190:=Tryz.func129.trans (congrArg some (by kernel_rfl))
 f258:=Tryz.func166.trans (congrArg some (by kernel_rfl))
 f302:=Tryz.func191.trans (congrArg some (by kernel_rfl))
 f303:=Tryz.func192.trans (congrArg some (by kernel_rfl))
 f304:=Tryz.func193.trans (congrArg some (by kernel_rfl))
 f305:=Tryz.func194.trans (congrArg some (by kernel_rfl))
 f306:=Tryz.func195.trans (congrArg some (by kernel_rfl))
 f307:=Tryz.func196.trans (congrArg some (by kernel_rfl))
 f308:=Tryz.func197.trans (congrArg some (by kernel_rfl))
 f309:=Tryz.func198.trans (congrArg some (by kernel_rfl))
 f310:=Tryz.func199.trans (congrArg some (by kernel_rfl))
 f329:=Tryz.func212.trans (congrArg some (by kernel_rfl))
 f330:=Tryz.func213.trans (congrArg some (by kernel_rfl))
 f333:=Tryz.func211.trans (congrArg some (by kernel_rfl))
 f334:=Tryz.func214.trans (congrArg some (by kernel_rfl))
 f335:=Tryz.func215.trans (congrArg some (by kernel_rfl))
 f336:=Tryz.func207.trans (congrArg some (by kernel_rfl))
 f344:=Tryz.func226.trans (congrArg some (by kernel_rfl))
 t0:=Tryz.underlying0
 a0:=Tryz.isAgg0
 z0:=Tryz.sizeOf0
 v0:=Tryz.zeroValue0
 t3:=Tryz.underlying3
 a3:=Tryz.isAgg3
 z3:=Tryz.sizeOf3
 v3:=Tryz.zeroValue3
 t4:=Tryz.underlying4
 a4:=Tryz.isAgg4
 z4:=Tryz.sizeOf4
 v4:=Tryz.zeroValue4
 t5:=Tryz.underlying5
 a5:=Tryz.isAgg5
 z5:=Tryz.sizeOf5
 v5:=Tryz.zeroValue5
 t9:=Tryz.underlying9
 a9:=Tryz.isAgg9
 z9:=Tryz.sizeOf9
 v9:=Tryz.zeroValue9
 t31:=Tryz.underlying30
 a31:=Tryz.isAgg30
 z31:=Tryz.sizeOf30
 v31:=Tryz.zeroValue30
 t46:=Tryz.underlying193
 a46:=Tryz.isAgg193
 z46:=Tryz.sizeOf193
 v46:=Tryz.zeroValue193
 t51:=Tryz.underlying226
 a51:=Tryz.isAgg226
 z51:=Tryz.sizeOf226
 v51:=Tryz.zeroValue226
 t53:=Tryz.underlying228
 a53:=Tryz.isAgg228
 z53:=Tryz.sizeOf228
 v53:=Tryz.zeroValue228
 t131:=Tryz.underlying204
 a131:=Tryz.isAgg204
 z131:=Tryz.sizeOf204
 v131:=Tryz.zeroValue204
 t182:=Tryz.underlying218
 a182:=Tryz.isAgg218
 z182:=Tryz.sizeOf218
 v182:=Tryz.zeroValue218
 t183:=Tryz.underlying219
 a183:=Tryz.isAgg219
 z183:=Tryz.sizeOf219
 v183:=Tryz.zeroValue219
 t218:=Tryz.underlying236
 a218:=Tryz.isAgg236
 z218:=Tryz.sizeOf236
 v218:=Tryz.zeroValue236
 t222:=Tryz.underlying240
 a222:=Tryz.isAgg240
 z222:=Tryz.sizeOf240
 v222:=Tryz.zeroValue240
 t228:=Tryz.underlying249
 a228:=Tryz.isAgg249
 z228:=Tryz.sizeOf249
 v228:=Tryz.zeroValue249
 t229:=Tryz.underlying250
 a229:=Tryz.isAgg250
 z229:=Tryz.sizeOf250
 v229:=Tryz.zeroValue250 }
def Tryz.compactStr_ren:Go.Shelf.Ren:=⟨fun|194=>130|n=>n,fun|31=>30|9=>9|3=>3|4=>4|0=>0|n=>n,fun|n=>n⟩
theorem Tryz.compactStr:Go.Proofs.Lays.n194 Tryz.prog Tryz.compactStr_ren:={
 mixed:=by kernel_rfl
 f194:=Tryz.func130.trans (congrArg some (by kernel_rfl))
 t0:=Tryz.underlying0
 a0:=Tryz.isAgg0
 z0:=Tryz.sizeOf0
 v0:=Tryz.zeroValue0
 t3:=Tryz.underlying3
 a3:=Tryz.isAgg3
 z3:=Tryz.sizeOf3
 v3:=Tryz.zeroValue3
 t4:=Tryz.underlying4
 a4:=Tryz.isAgg4
 z4:=Tryz.sizeOf4
 v4:=Tryz.zeroValue4
 t9:=Tryz.underlying9
 a9:=Tryz.isAgg9
 z9:=Tryz.sizeOf9
 v9:=Tryz.zeroValue9
 t31:=Tryz.underlying30
 a31:=Tryz.isAgg30
 z31:=Tryz.sizeOf30
 v31:=Tryz.zeroValue30 }
end Go.Proofs
namespace Go.Proofs.YtbcoelggdikipaaGreat
open Go.RowKit
def idxI {α:Type}(p:α->Bool)(l:List α):Int:=match l.findIdx? p with|some i=>(i:Int)|none=>-1
theorem Vr {α:Type}{p:α->Bool}{l:List α}{k:Nat}{x:α}(h:∀ (j:Nat) y,j<k->l[j]?=some y->p y=false)(hx:l[k]?=some x)(hp:p x=true):idxI p l=(k:Int):=by
 have hlt:=(List.getElem?_eq_some_iff.1 hx).1
 have:l.findIdx? p=some k:=by
  rw[List.findIdx?_eq_some_iff_getElem]
  refine⟨hlt,by rw[(List.getElem?_eq_some_iff.1 hx).2];exact hp,fun j hj=>?_⟩
  rw[h j _ hj (List.getElem?_eq_getElem (by omega))];simp
 unfold idxI;rw[this]
theorem JQ {α:Type}{p:α->Bool}{l:List α}(h:∀ (j:Nat) y,j<l.length->l[j]?=some y->p y=false):idxI p l=-1:=by
 have:l.findIdx? p=none:=by
  rw[List.findIdx?_eq_none_iff]
  intro x hx
  obtain⟨j,hj⟩:=List.getElem?_of_mem hx
  exact h j x (List.getElem?_eq_some_iff.1 hj).1 hj
 unfold idxI;rw[this]
theorem Vs {α:Type}(p:α->Bool)(l:List α):decide (0<=idxI p l)=l.any p:=by
 unfold idxI
 cases h:l.findIdx? p with
 |none=>
  rw[List.findIdx?_eq_none_iff]at h
  rw[Bool.eq_iff_iff]
  simp[List.any_eq_true]
  exact h
 |some i=>
  rw[List.findIdx?_eq_some_iff_getElem]at h
  obtain⟨hlt,hp,_⟩:=h
  have:l.any p=true:=List.any_eq_true.2 ⟨l[i],List.getElem_mem hlt,hp⟩
  rw[this];simp
theorem qZj {α:Type}(p:α->Bool)(l:List α):-1<=idxI p l/\idxI p l<l.length+1:=by
 unfold idxI
 cases h:l.findIdx? p with
 |none=>simp;omega
 |some i=>
  rw[List.findIdx?_eq_some_iff_getElem]at h
  obtain⟨hlt,_⟩:=h
  simp;omega
def qZk (g:Nat)(lb:Array Value)(p:Int×Int->Bool)(w:World):Prop:=
 (∀ args W,(callFunc g args).run Tryz.prog W=.ok (.enter g args) W) /\
 ∀ (x:Int×Int) (W:World),Below w.heap.size w W->Calls Tryz.prog g (#[.agg #[.int .i64 x.1,.int .i64 x.2]]++lb) W fun e w'=>e=.returned (.bool (p x))/\Below W.heap.size W w'
theorem qJk (p:Int×Int->Bool)(g:Nat)(lb:Array Value)(l:List (Int×Int))(v:Value)(w:World)(h:SlP w w.heap.size 2 RuE v l)(ht:qZk g lb p w) :
  Calls Tryz.prog 216 #[v,.func (.func g) #[] lb] w fun e w'=>e=.returned (.int .i64 (idxI p l))/\Below w.heap.size w w':=by
 obtain⟨A,n,rfl,b1,b2,b3⟩:=h
 obtain⟨eg,ht⟩:=ht
 unfold Big at b2
 go_enter Tryz.func216,Tryz.ntmps216
 go_wp2_with fail
 go_loopw [8] (fun i wr=>∃ k:Nat,k<=l.length/\i=.int .i64 k/\Hid (∀ (j:Nat) y,j<k->l[j]?=some y->p y=false)/\Below w.heap.size w wr) (fun i _=>l.length-(intOf i).toNat)
 case atStart=>exact⟨0,Nat.zero_le _,rfl,fun j y hj=>absurd hj (Nat.not_lt_zero _),Below.refl _ _⟩
 case round=>
  obtain⟨k,hk,rfl,hrel,hb⟩:=hrel
  have hsz:=hb.size
  by_cases hlt:k<l.length
  ·obtain⟨x,hx⟩:∃ x,l[k]?=some x:=⟨_,List.getElem?_eq_getElem hlt⟩
   obtain⟨b,off,rfl,hbB,hc⟩:=b3 (by rintro rfl;simp at hlt)
   obtain⟨cs,⟨rfl,hok⟩,_,hu⟩:=hc k _ hx
   have e0:wr.cell? ⟨b,off+k*2,none⟩=some (.int .i64 x.1):=(hb.cell hbB).trans (hu 0 _ rfl)
   have e1:wr.cell? ⟨b,off+k*2+1,none⟩=some (.int .i64 x.2):=(hb.cell hbB).trans (hu 1 _ rfl)
   have hcall:=ht x wr hb
   have HX:=hid hx
   clear hu hx hc b3 hok ht
   cases hq:p x
   ·have HQ:=hid hq
    rw[hq]at hcall
    clear hq
    go_wp2_with (go_at_fn g;refine hcall.mono ?_;rintro e w1 ⟨rfl,hb1⟩)
    go_roundw
    case rel=>
     refine⟨k+1,by omega,by go_num,fun j y hj hy=>?_,hb.trans (hb1.mono hsz)⟩
     by_cases hjk:j=k
     ·subst hjk;have h2:=HX.out;rw[hy]at h2;cases h2;exact HQ.out
     ·exact hrel.out j y (by omega) hy
    case measure=>simp[intOf];omega
   ·have HQ:=hid hq
    rw[hq]at hcall
    clear hq
    go_wp2_with (go_at_fn g;refine hcall.mono ?_;rintro e w1 ⟨rfl,hb1⟩)
    go_ret
    exact⟨Qn (Vr hrel.out HX.out HQ.out).symm,hb.trans (hb1.mono hsz)⟩
  ·obtain rfl:k=l.length:=by omega
   go_wp2_with fail
   go_ret
   exact⟨Qn (JQ hrel.out).symm,hb⟩
theorem qJl (p:Int×Int->Bool)(g:Nat)(lb:Array Value)(l:List (Int×Int))(v:Value)(w:World)(h:SlP w w.heap.size 2 RuE v l)(ht:qZk g lb p w) :
  Calls Tryz.prog 202 #[v,.func (.func g) #[] lb] w fun e w'=>e=.returned (.bool (l.any p))/\Below w.heap.size w w':=by
 have hbd:=qZj p l
 have HA:=hid (Vs p l)
 obtain⟨A,n,rfl,b1,b2,b3⟩:=h
 unfold Big at b2
 go_enter Tryz.func202,Tryz.ntmps202
 go_wp2_with fail
 refine (qJk p g lb l _ w ⟨A,n,rfl,b1,by unfold Big;omega,b3⟩ ht).mono ?_
 rintro e w1 ⟨rfl,hb1⟩
 go_wp2_with fail
 go_ret
 exact⟨Qf HA.out,hb1⟩
theorem qJm (x:Int×Int)(n:Int)(B:Nat)(w:World)(hc:w.cell? ⟨B,0,none⟩=some (.int .i64 n))(hB:B<w.heap.size) :
  Calls Tryz.prog 203 #[.agg #[.int .i64 x.1,.int .i64 x.2],.pointer (some ⟨B,0,none⟩)] w fun e w'=>e=.returned (.bool (inR x n))/\Below w.heap.size w w':=by
 have hne:B≠w.heap.size:=by omega
 rcases t1:decide (x.1<=n)
 ·have HR:Hid (inR x n=false):=by unfold Hid inR;rw[t1];rfl
  go_enter Tryz.func203,Tryz.ntmps203
  go_wp2_with fail
  go_ret
  exact⟨Qf HR.out.symm,by go_grown⟩
 ·have HR:Hid (inR x n=decide (n<=x.2)):=by unfold Hid inR;rw[t1];rfl
  go_enter Tryz.func203,Tryz.ntmps203
  go_wp2_with fail
  go_ret
  exact⟨Qf HR.out.symm,by go_grown⟩
def sHas (l:List (Int×Int))(n:Int):Bool:=runsR none l&&hasL l n
theorem zQc (l:List (Int×Int))(n:Int)(v:Value)(w:World)(h:SlP w w.heap.size 2 RuE v l) :
  Calls Tryz.prog 169 #[v,.int .i64 n] w fun e w'=>e=.returned (.bool (sHas l n))/\Below w.heap.size w w':=by
 have hs:SlP (w.alloc (.cells #[.int .i64 n] 2)) (w.alloc (.cells #[.int .i64 n] 2)).heap.size 2 RuE v l:=SlP.imp h ((Below.refl _ w).alloc (Nat.le_refl _) _) (by simp) fun _ _ _ h=>h
 have HS:=hid hs
 clear hs h
 go_enter Tryz.func169,Tryz.ntmps169
 go_wp2_with fail
 refine (Yh l v _ HS.out).mono ?_
 rintro e w1 ⟨rfl,hb1⟩
 have hs1:=hb1.size
 simp only[World.size_alloc]at hs1
 have hB:Below w.heap.size w w1:=((Below.refl _ w).alloc (Nat.le_refl _) _).trans (hb1.mono (by simp))
 have hc:w1.cell? ⟨w.heap.size,0,none⟩=some (.int .i64 n):=by rw[hb1.cell (p:=⟨w.heap.size,0,none⟩) (by simp)];simp
 have HT:Hid (qZk 203 #[.pointer (some ⟨w.heap.size,0,none⟩)] (fun r=>inR r n) w1):=
  ⟨enters_of Tryz.func203 (by kernel_rfl) rfl,fun x W hW=>qJm x n w.heap.size W ((hW.cell (p:=⟨w.heap.size,0,none⟩) (by show w.heap.size<_;omega)).trans hc) (by have:=hW.size;omega)⟩
 have hs2:SlP w1 w1.heap.size 2 RuE v l:=SlP.imp HS.out hb1 (by simpa using hs1) fun _ _ _ h=>h
 have HS2:=hid hs2
 clear hs2
 cases hr:runsR none l
 ·have HR:Hid (sHas l n=false):=by unfold Hid sHas;rw[hr];rfl
  clear hr
  go_wp2_with fail
  go_ret
  exact⟨Qf HR.out.symm,hB⟩
 ·have HR:Hid (sHas l n=l.any fun r=>inR r n):=by unfold Hid sHas;rw[hr];rfl
  clear hr
  go_wp2_with fail
  refine (qJl (fun r=>inR r n) _ _ l v w1 HS2.out HT.out).mono ?_
  rintro e w2 ⟨rfl,hb2⟩
  go_wp2_with fail
  go_ret
  exact⟨Qf HR.out.symm,hB.trans (hb2.mono (by omega))⟩
def JR (g:Nat)(lb:Array Value)(p:ByteArray->Bool)(w:World):Prop:=
 (∀ args W,(callFunc g args).run Tryz.prog W=.ok (.enter g args) W) /\
 ∀ (x:ByteArray) (W:World),x.size<=Big->Below w.heap.size w W->Calls Tryz.prog g (#[.string x]++lb) W fun e w'=>e=.returned (.bool (p x))/\Below W.heap.size W w'
def JU (g:Nat)(lb:Array Value)(p:ByteArray->Bool)(w:World):Prop:=
 (∀ args W,(callFunc g args).run Tryz.prog W=.ok (.enter g args) W) /\
 ∀ (x:ByteArray) (A A':Option Addr) (n c n' c':Nat) (W:World),x.size<=Big->Below w.heap.size w W->Calls Tryz.prog g (#[.agg #[.string x,.slice A n c,.slice A' n' c']]++lb) W fun e w'=>e=.returned (.bool (p x))/\Below W.heap.size W w'
theorem qJn (p:ByteArray->Bool)(g:Nat)(lb:Array Value)(l:List ByteArray)(v:Value)(w:World)(h:SlP w w.heap.size 1 StE v l)(ht:JR g lb p w) :
  Calls Tryz.prog 165 #[v,.func (.func g) #[] lb] w fun e w'=>e=.returned (.int .i64 (idxI p l))/\Below w.heap.size w w':=by
 obtain⟨A,n,rfl,b1,b2,b3⟩:=h
 obtain⟨eg,ht⟩:=ht
 unfold Big at b2
 go_enter Tryz.func165,Tryz.ntmps165
 go_wp2_with fail
 go_loopw [8] (fun i wr=>∃ k:Nat,k<=l.length/\i=.int .i64 k/\Hid (∀ (j:Nat) y,j<k->l[j]?=some y->p y=false)/\Below w.heap.size w wr) (fun i _=>l.length-(intOf i).toNat)
 case atStart=>exact⟨0,Nat.zero_le _,rfl,fun j y hj=>absurd hj (Nat.not_lt_zero _),Below.refl _ _⟩
 case round=>
  obtain⟨k,hk,rfl,hrel,hb⟩:=hrel
  have hsz:=hb.size
  by_cases hlt:k<l.length
  ·obtain⟨x,hx⟩:∃ x,l[k]?=some x:=⟨_,List.getElem?_eq_getElem hlt⟩
   obtain⟨b,off,rfl,hbB,hc⟩:=b3 (by rintro rfl;simp at hlt)
   obtain⟨cs,⟨rfl,hok⟩,_,hu⟩:=hc k _ hx
   have e0:wr.cell? ⟨b,off+k,none⟩=some (.string x):=(hb.cell hbB).trans (by simpa using hu 0 _ rfl)
   have hcall:=ht x wr hok hb
   have HX:=hid hx
   have hpx:p x=p x:=rfl
   clear hu hx hc b3 ht
   cases hq:p x
   ·have HQ:Hid (p x=false):=hpx.trans hq
    rw[hq]at hcall
    clear hq hpx
    go_wp2_with (go_at_fn g;refine hcall.mono ?_;rintro e w1 ⟨rfl,hb1⟩)
    go_roundw
    case rel=>
     refine⟨k+1,by omega,by go_num,fun j y hj hy=>?_,hb.trans (hb1.mono hsz)⟩
     by_cases hjk:j=k
     ·subst hjk;have h2:=HX.out;rw[hy]at h2;cases h2;exact HQ.out
     ·exact hrel.out j y (by omega) hy
    case measure=>simp[intOf];omega
   ·have HQ:Hid (p x=true):=hpx.trans hq
    rw[hq]at hcall
    clear hq hpx
    go_wp2_with (go_at_fn g;refine hcall.mono ?_;rintro e w1 ⟨rfl,hb1⟩)
    go_ret
    exact⟨Qn (Vr hrel.out HX.out HQ.out).symm,hb.trans (hb1.mono hsz)⟩
  ·obtain rfl:k=l.length:=by omega
   go_wp2_with fail
   go_ret
   exact⟨Qn (JQ hrel.out).symm,hb⟩
theorem X4 (p:ByteArray->Bool)(g:Nat)(lb:Array Value)(l:List ByteArray)(v:Value)(w:World)(h:SlP w w.heap.size 1 StE v l)(ht:JR g lb p w) :
  Calls Tryz.prog 125 #[v,.func (.func g) #[] lb] w fun e w'=>e=.returned (.bool (l.any p))/\Below w.heap.size w w':=by
 have hbd:=qZj p l
 have HA:=hid (Vs p l)
 obtain⟨A,n,rfl,b1,b2,b3⟩:=h
 unfold Big at b2
 go_enter Tryz.func125,Tryz.ntmps125
 go_wp2_with fail
 refine (qJn p g lb l _ w ⟨A,n,rfl,b1,by unfold Big;omega,b3⟩ ht).mono ?_
 rintro e w1 ⟨rfl,hb1⟩
 go_wp2_with fail
 go_ret
 exact⟨Qf HA.out,hb1⟩
theorem KN (p:ByteArray->Bool)(g:Nat)(lb:Array Value)(l:List Kd)(v:Value)(w:World)(h:SlP w w.heap.size 3 (KdE w w.heap.size) v l)(ht:JU g lb p w) :
  Calls Tryz.prog 120 #[v,.func (.func g) #[] lb] w fun e w'=>e=.returned (.int .i64 (idxI (fun y=>p y.1) l))/\Below w.heap.size w w':=by
 obtain⟨A,n,rfl,b1,b2,b3⟩:=h
 obtain⟨eg,ht⟩:=ht
 unfold Big at b2
 go_enter Tryz.func120,Tryz.ntmps120
 go_wp2_with fail
 go_loopw [8] (fun i wr=>∃ k:Nat,k<=l.length/\i=.int .i64 k/\Hid (∀ (j:Nat) y,j<k->l[j]?=some y->(fun y=>p y.1) y=false)/\Below w.heap.size w wr) (fun i _=>l.length-(intOf i).toNat)
 case atStart=>exact⟨0,Nat.zero_le _,rfl,fun j y hj=>absurd hj (Nat.not_lt_zero _),Below.refl _ _⟩
 case round=>
  obtain⟨k,hk,rfl,hrel,hb⟩:=hrel
  have hsz:=hb.size
  by_cases hlt:k<l.length
  ·obtain⟨x,hx⟩:∃ x,l[k]?=some x:=⟨_,List.getElem?_eq_getElem hlt⟩
   obtain⟨b,off,rfl,hbB,hc⟩:=b3 (by rintro rfl;simp at hlt)
   obtain⟨cs,⟨ve,vk,rfl,hok,hrd⟩,_,hu⟩:=hc k _ hx
   obtain⟨A3,n3,A4,n4,rfl,rfl⟩:=Qj hrd
   have e0:wr.cell? ⟨b,off+k*3,none⟩=some (.string x.1):=(hb.cell hbB).trans (hu 0 _ rfl)
   have e1:wr.cell? ⟨b,off+k*3+1,none⟩=some (.slice A3 x.2.es.length n3):=(hb.cell hbB).trans (hu 1 _ rfl)
   have e2:wr.cell? ⟨b,off+k*3+2,none⟩=some (.slice A4 x.2.ks.length n4):=(hb.cell hbB).trans (hu 2 _ rfl)
   have hcall:=ht x.1 A3 A4 x.2.es.length n3 x.2.ks.length n4 wr hok hb
   have HX:=hid hx
   have hpx:(fun y=>p y.1) x=p x.1:=rfl
   clear hu hx hc b3 ht
   cases hq:p x.1
   ·have HQ:Hid ((fun y=>p y.1) x=false):=hpx.trans hq
    rw[hq]at hcall
    clear hq hpx
    go_wp2_with (go_at_fn g;refine hcall.mono ?_;rintro e w1 ⟨rfl,hb1⟩)
    go_roundw
    case rel=>
     refine⟨k+1,by omega,by go_num,fun j y hj hy=>?_,hb.trans (hb1.mono hsz)⟩
     by_cases hjk:j=k
     ·subst hjk;have h2:=HX.out;rw[hy]at h2;cases h2;exact HQ.out
     ·exact hrel.out j y (by omega) hy
    case measure=>simp[intOf];omega
   ·have HQ:Hid ((fun y=>p y.1) x=true):=hpx.trans hq
    rw[hq]at hcall
    clear hq hpx
    go_wp2_with (go_at_fn g;refine hcall.mono ?_;rintro e w1 ⟨rfl,hb1⟩)
    go_ret
    exact⟨Qn (Vr hrel.out HX.out HQ.out).symm,hb.trans (hb1.mono hsz)⟩
  ·obtain rfl:k=l.length:=by omega
   go_wp2_with fail
   go_ret
   exact⟨Qn (JQ hrel.out).symm,hb⟩
theorem KO (p:ByteArray->Bool)(g:Nat)(lb:Array Value)(l:List Kd)(v:Value)(w:World)(h:SlP w w.heap.size 3 (KdE w w.heap.size) v l)(ht:JU g lb p w) :
  Calls Tryz.prog 145 #[v,.func (.func g) #[] lb] w fun e w'=>e=.returned (.bool (l.any (fun y=>p y.1)))/\Below w.heap.size w w':=by
 have hbd:=qZj (fun y=>p y.1) l
 have HA:=hid (Vs (fun y=>p y.1) l)
 obtain⟨A,n,rfl,b1,b2,b3⟩:=h
 unfold Big at b2
 go_enter Tryz.func145,Tryz.ntmps145
 go_wp2_with fail
 refine (KN p g lb l _ w ⟨A,n,rfl,b1,by unfold Big;omega,b3⟩ ht).mono ?_
 rintro e w1 ⟨rfl,hb1⟩
 go_wp2_with fail
 go_ret
 exact⟨Qf HA.out,hb1⟩
def cHas (c:List Sp)(d:Dt):Bool:=Qm c&&(d.right&&sHas (partL c d.dc) d.n)
theorem Xw (c:List Sp)(d:Dt)(vc:Value)(w:World)(h:SlP w w.heap.size 3 SpE vc c)(hN:c.length<=900000) :
  Calls Tryz.prog 137 #[vc,.agg #[.int .i64 d.dc,.int .i64 d.n]] w fun e w'=>e=.returned (.bool (cHas c d))/\Below w.heap.size w w':=by
 have HC:Hid (∀ w',Below w.heap.size w w'->SlP w' w'.heap.size 3 SpE vc c):=fun w' hb=>h.imp hb hb.size (fun _ _ _ h=>h)
 obtain⟨A,n,rfl,_,_,_⟩:=h
 obtain⟨dc,num⟩:=d
 go_enter Tryz.func137,Tryz.ntmps137
 go_wp2_with fail
 refine (Xv c _ _ (HC.out _ ((Below.refl _ w).alloc (Nat.le_refl _) _)) hN).mono ?_
 rintro e w1 ⟨vs,rfl,hsl,hb1⟩
 have hs1:=hb1.size
 simp only[World.size_alloc]at hs1
 have hB1:Below w.heap.size w w1:=((Below.refl _ w).alloc (Nat.le_refl _) _).trans (hb1.mono (by simp))
 have b0:w1.cell? ⟨w.heap.size,0,none⟩=some (.int .i64 dc):=by rw[hb1.cell (p:=⟨w.heap.size,0,none⟩) (by simp)];simp
 have b1:w1.cell? ⟨w.heap.size,1,none⟩=some (.int .i64 num):=by rw[hb1.cell (p:=⟨w.heap.size,1,none⟩) (by simp)];simp
 obtain⟨A0,m0,g0,_⟩:=hsl 0 (by omega)
 obtain⟨A1,m1,g1,_⟩:=hsl 1 (by omega)
 obtain⟨A2,m2,g2,_⟩:=hsl 2 (by omega)
 obtain⟨A3,m3,g3,_⟩:=hsl 3 (by omega)
 have HSL:=hid (fun i (hi:i<4)=>(hsl i hi).slp (fun b hb=>hb.2) (Below.refl _ w1))
 clear hsl
 cases hap:Qm c
 ·have HR:Hid (cHas c ⟨dc,num⟩=false):=by unfold Hid cHas;rw[hap];rfl
  simp only[hap,Bool.false_eq_true,if_false]at g0 g1 g2 g3
  simp only[g0,g1,g2,g3]
  clear hap g0 g1 g2 g3
  go_upto_region 2 with (fail)
  refine Qc (w1.heap.size+1) (by kernel_rfl) (by kernel_rfl) ?_
  repeat (go_big_quiet_step (fail))
  refine wpQuiet_nil ?_
  intro wq hbq
  have hbw:Below w.heap.size w wq:=(hB1.alloc (by omega) _).trans (hbq.mono (by omega))
  go_wp2_with fail
  go_ret
  exact⟨Qf HR.out.symm,hbw⟩
 simp only[hap,if_true]at g0 g1 g2 g3
 simp only[g0,g1,g2,g3]
 cases hr:Dt.right ⟨dc,num⟩
 ·have HR:Hid (cHas c ⟨dc,num⟩=false):=by unfold Hid cHas;rw[hap,hr];rfl
  go_upto_region 2 with (fail)
  have f0:=Qh (B:=w1.heap.size+1) (w:=w1.alloc (.cells #[.slice A0 (partL c 0).length m0,.slice A1 (partL c 1).length m1,.slice A2 (partL c 2).length m2,.slice A3 (partL c 3).length m3] 162)) (b:=w.heap.size) (o:=0) (v:=.int .i64 dc) (by rw[World.cell?_alloc_lt _ _ _ (by show w.heap.size<_;omega)];exact b0) (by omega)
  have f1:=Qh (B:=w1.heap.size+1) (w:=w1.alloc (.cells #[.slice A0 (partL c 0).length m0,.slice A1 (partL c 1).length m1,.slice A2 (partL c 2).length m2,.slice A3 (partL c 3).length m3] 162)) (b:=w.heap.size) (o:=1) (v:=.int .i64 num) (by rw[World.cell?_alloc_lt _ _ _ (by show w.heap.size<_;omega)];exact b1) (by omega)
  have HRI:=hid hr
  clear hap hr g0 g1 g2 g3
  refine Qc (w1.heap.size+1) (by kernel_rfl) (by kernel_rfl) ?_
  repeat (go_big_quiet_step ((go_at_call 64;exact Calls.far_of (by simp) (HRI.out▸QB ⟨dc,num⟩ _))))
  refine wpQuiet_nil ?_
  intro wq hbq
  have hbw:Below w.heap.size w wq:=(hB1.alloc (by omega) _).trans (hbq.mono (by omega))
  go_wp2_with fail
  go_ret
  exact⟨Qf HR.out.symm,hbw⟩
 ·have hbd:(0<=dc/\dc<4)/\1<=num/\num<=1099511627776:=by simpa[Dt.right,and_assoc] using hr
  obtain⟨dn,rfl⟩:∃ dn:Nat,dc=(dn:Int):=⟨dc.toNat,by omega⟩
  have hd4:dn<4:=by omega
  have hdi:(dn:Int)<4:=by omega
  have HR:Hid (cHas c ⟨dn,num⟩=sHas (partL c dn) num):=by unfold Hid cHas;rw[hap,hr];rfl
  obtain⟨Ad,md,gd,_⟩:=HSL.out dn hd4
  rw[if_pos hap]at gd
  have hcell:(w1.alloc (.cells #[.slice A0 (partL c 0).length m0,.slice A1 (partL c 1).length m1,.slice A2 (partL c 2).length m2,.slice A3 (partL c 3).length m3] 162)).cell? ⟨w1.heap.size,dn,none⟩=some (.slice Ad (partL c dn).length md):=by
   rw[Qa (Qd rfl),←gd]
   match dn,hd4 with
   |0,_=>rw[g0];rfl
   |1,_=>rw[g1];rfl
   |2,_=>rw[g2];rfl
   |3,_=>rw[g3];rfl
  have HS3:Hid (∀ w',Below w1.heap.size w1 w'->SlP w' w'.heap.size 2 RuE (.slice Ad (partL c dn).length md) (partL c dn)):=fun w' hb=>by
   have:=HSL.out dn hd4
   rw[if_pos hap,gd]at this
   exact this.imp hb hb.size fun _ _ _ h=>h
  go_upto_region 2 with (fail)
  have f0:=Qh (B:=w1.heap.size+1) (w:=w1.alloc (.cells #[.slice A0 (partL c 0).length m0,.slice A1 (partL c 1).length m1,.slice A2 (partL c 2).length m2,.slice A3 (partL c 3).length m3] 162)) (b:=w.heap.size) (o:=0) (v:=.int .i64 (dn:Int)) (by rw[World.cell?_alloc_lt _ _ _ (by show w.heap.size<_;omega)];exact b0) (by omega)
  have f1:=Qh (B:=w1.heap.size+1) (w:=w1.alloc (.cells #[.slice A0 (partL c 0).length m0,.slice A1 (partL c 1).length m1,.slice A2 (partL c 2).length m2,.slice A3 (partL c 3).length m3] 162)) (b:=w.heap.size) (o:=1) (v:=.int .i64 num) (by rw[World.cell?_alloc_lt _ _ _ (by show w.heap.size<_;omega)];exact b1) (by omega)
  have f2:=Qh (B:=w1.heap.size+1) hcell (by omega)
  have HRI:=hid hr
  clear hap hr g0 g1 g2 g3 gd hcell
  refine Qc (w1.heap.size+1) (by kernel_rfl) (by kernel_rfl) ?_
  repeat (go_big_quiet_step (first|(go_at_call 64;exact Calls.far_of (by simp) (HRI.out▸QB ⟨dn,num⟩ _))|(go_at_call 169;exact Calls.far_all (by simp) (fun w' hb'=>zQc (partL c dn) num _ w' (HS3.out w' (((Below.refl _ w1).alloc (Nat.le_refl _) _).trans (hb'.mono (by omega))))))))
  refine wpQuiet_nil ?_
  intro wq hbq
  have hbw:Below w.heap.size w wq:=(hB1.alloc (by omega) _).trans (hbq.mono (by omega))
  go_wp2_with fail
  go_ret
  exact⟨Qf HR.out.symm,hbw⟩
theorem qX5:∀ (c:List Sp) (L:Int),c.Pairwise (fun a b=>a.dc<=b.dc)->(∀ s∈c,L<=s.dc/\s.dc<4)->dcsOk L c=true
 |[],_,_,_=>rfl
 |s :: c,L,hp,ha=>by
  rw[List.pairwise_cons]at hp
  rw[dcsOk,qX5 c s.dc hp.2 (fun x hx=>⟨hp.1 x hx,(ha x (by simp[hx])).2⟩)]
  have:=ha s (by simp)
  simp[this]
theorem Xx (ls:Nat->List (Int×Int)):∀ k,∀ s∈QN ls k,0<=s.dc/\s.dc<k
 |0,s,h=>by simp[QN]at h
 |k+1,s,h=>by
  rw[ZO]at h
  rcases List.mem_append.1 h with h|h
  ·have:=Xx ls k s h;omega
  ·obtain⟨r,_,rfl⟩:=List.mem_map.1 h
   show 0<=(k:Int)/\(k:Int)<_
   omega
theorem V1 (ls:Nat->List (Int×Int)):∀ k,(QN ls k).Pairwise fun a b=>a.dc<=b.dc
 |0=>by simp[QN]
 |k+1=>by
  rw[ZO,List.pairwise_append]
  refine⟨V1 ls k,?_,fun a ha b hb=>?_⟩
  ·unfold Qz
   rw[List.pairwise_map]
   exact List.pairwise_of_forall fun _ _=>Int.le_refl _
  ·obtain⟨r,_,rfl⟩:=List.mem_map.1 hb
   have:=Xx ls k a ha
   show a.dc<=(k:Int)
   omega
theorem V2 (a b:List Sp)(dc:Int):partL (a++b) dc=partL a dc++partL b dc:=by simp[partL]
theorem Y9 (l:List (Int×Int))(d dc:Int):partL (Qz d l) dc=if d=dc then l else []:=by
 unfold partL Qz
 rw[List.filter_map,List.map_map]
 by_cases e:d=dc
 ·rw[if_pos e]
  rw[List.filter_eq_self.2 (fun x _=>by simp[e])]
  exact List.map_id'' (fun x=>rfl) l
 ·rw[if_neg e,List.filter_eq_nil_iff.2 (fun x _=>by simp[e])];rfl
theorem Yr (ls:Nat->List (Int×Int)):∀ (k d:Nat),partL (QN ls k) d=if d<k then ls d else []
 |0,d=>by simp[QN,partL]
 |k+1,d=>by
  rw[ZO,V2,Yr ls k d,Y9]
  by_cases e:d=k
  ·subst e;rw[if_neg (Nat.lt_irrefl _),if_pos rfl,if_pos (Nat.lt_succ_self _)];rfl
  ·rw[if_neg (show ¬(k:Int)=(d:Int) by omega),List.append_nil]
   by_cases h:d<k
   ·rw[if_pos h,if_pos (by omega)]
   ·rw[if_neg h,if_neg (by omega)]
theorem J6 {ls:Nat->List (Int×Int)}(h:∀ i,i<4->runsR none (ls i)=true):Qm (QN ls 4)=true:=by
 unfold Qm
 rw[qX5 _ 0 (V1 ls 4) (fun s hs=>by have:=Xx ls 4 s hs;omega),Bool.true_and,List.all_eq_true]
 intro i hi
 have hi4:i<4:=List.mem_range.1 hi
 rw[Yr,if_pos hi4]
 exact h i hi4
theorem qX6 {ls ms:Nat->List (Int×Int)}(h:∀ i,i<4->ls i=ms i):QN ls 4=QN ms 4:=by
 unfold QN
 rw[List.flatMap_def,List.flatMap_def]
 congr 1
 apply List.map_congr_left
 intro i hi
 rw[h i (List.mem_range.1 hi)]
theorem Ys (l:List Dt):ctxOf l=QN (fun i=>ofL (numsL l i)) 4:=rfl
theorem J7 {l:List Dt}(h:∀ d∈l,d.right=true)(dc:Int):∀ x∈numsL l dc,1<=x/\x<=1099511627776:=fun x hx=>by
 unfold numsL at hx
 obtain⟨d,hd,rfl⟩:=List.mem_map.1 hx
 have h1:=h d (List.mem_filter.1 hd).1
 simp[Dt.right]at h1
 omega
theorem Qq {l:List Dt}(h:∀ d∈l,d.right=true):Qm (ctxOf l)=true:=by
 rw[Ys]
 exact J6 fun i _=>(ZN (J7 h i)).1
theorem KW (l:List Dt){d:Nat}(hd:d<4):partL (ctxOf l) d=ofL (numsL l d):=by
 rw[Ys,Yr,if_pos hd]
theorem zXa {c:List Sp}(h:Qm c=true)(d:Dt):cHas c d=hasC c d:=by
 unfold cHas hasC sHas
 rw[h,Bool.true_and]
 cases hd:d.right with
 |false=>rfl
 |true=>
  simp only[Bool.true_and]
  have hb:0<=d.dc/\d.dc<4:=by simp[Dt.right]at hd;omega
  obtain⟨n,hn⟩:∃ n:Nat,d.dc=(n:Int):=⟨d.dc.toNat,by omega⟩
  unfold Qm at h
  rw[Bool.and_eq_true,List.all_eq_true]at h
  have:=h.2 n (List.mem_range.2 (by omega))
  rw[hn,this];rfl
theorem ZH {l:List Dt}(h:∀ d∈l,d.right=true){d:Dt}(hd:d.right=true):hasC (ctxOf l) d=decide (d∈l):=by
 have hb:0<=d.dc/\d.dc<4:=by simp[Dt.right]at hd;omega
 obtain⟨n,hn⟩:∃ n:Nat,d.dc=(n:Int):=⟨d.dc.toNat,by omega⟩
 unfold hasC
 rw[hd,Bool.true_and,hn,KW l (by omega),Bool.eq_iff_iff,(ZN (J7 h n)).2,decide_eq_true_eq]
 unfold numsL
 rw[List.mem_map]
 constructor
 ·rintro⟨x,hx,he⟩
  obtain⟨hx1,hx2⟩:=List.mem_filter.1 hx
  have:x=d:=by cases x;cases d;simp at *;exact⟨hx2.trans hn.symm,he⟩
  rw[←this];exact hx1
 ·intro hm
  exact⟨d,List.mem_filter.2 ⟨hm,by simp[hn]⟩,rfl⟩
theorem zXf:ofL []=[]:=by simp[ofL,ofGo,nextL]
theorem zXg {n:Int}(h:1<=n/\n<=1099511627776):ofL [n]=[(n,n)]:=by
 obtain⟨h1,h2⟩:=ZN (ps:=[n]) (fun x hx=>by simp at hx;subst hx;exact h)
 refine YF _ _ none none h1 ((ZM none (n,n)).2 ⟨⟨h.1,Int.le_refl _,h.2⟩,rfl⟩) fun m=>?_
 rw[Bool.eq_iff_iff,h2]
 simp[hasL,inR]
 omega
theorem Vx {d:Dt}(h:d.right=true):(0<=d.dc/\d.dc<4)/\1<=d.n/\d.n<=1099511627776:=by simpa[Dt.right,and_assoc] using h
theorem qVl {d:Dt}(h:d.right=true):ctxOf [d]=[⟨d.dc,d.n,d.n⟩]:=by
 obtain⟨h1,h2⟩:=Vx h
 rw[Ys]
 have hk:∀ i:Nat,ofL (numsL [d] (i:Int))=if d.dc=(i:Int) then [(d.n,d.n)] else []:=fun i=>by
  by_cases e:d.dc=(i:Int)
  ·rw[if_pos e,show numsL [d] (i:Int)=[d.n] by simp[numsL,e],zXg h2]
  ·rw[if_neg e,show numsL [d] (i:Int)=[] by simp[numsL,e],zXf]
 unfold QN
 simp only[hk]
 rcases (show d.dc=0∨d.dc=1∨d.dc=2∨d.dc=3 by omega) with e|e|e|e<;>simp[e,List.range_succ,Qz]
theorem Xa (a b:List Sp)(how:Int):ctxBy a b how=QN (fun i=>byL (partL a i) (partL b i) how) 4:=rfl
theorem Ka:∀ (l:List (Int×Int)) (p:Option Int),runsR p l=true->∀ r∈l,runOk r
 |x :: l,p,h,r,hr=>by
  rw[Qo]at h
  rcases List.mem_cons.1 hr with rfl|hr
  ·exact h.1
  ·exact Ka l _ h.2.2 r hr
theorem Qw {c:List Sp}(h:Qm c=true){i:Nat}(hi:i<4):runsR none (partL c i)=true:=by
 unfold Qm at h
 rw[Bool.and_eq_true,List.all_eq_true]at h
 exact h.2 i (List.mem_range.2 hi)
theorem ZQ:∀ (c:List Sp) (L:Int),dcsOk L c=true->∀ s∈c,L<=s.dc/\s.dc<4
 |s :: c,L,h,x,hx=>by
  rw[dcsOk,Bool.and_eq_true,Bool.and_eq_true,decide_eq_true_eq,decide_eq_true_eq]at h
  rcases List.mem_cons.1 hx with rfl|hx
  ·exact⟨h.1.1,h.1.2⟩
  ·have:=ZQ c s.dc h.2 x hx;exact⟨by omega,this.2⟩
theorem qQa:∀ (c:List Sp) (L:Nat),dcsOk (L:Int) c=true->∀ n,L+n=4->c=(List.range' L n).flatMap fun (dc:Nat)=>Qz (dc:Int) (partL c (dc:Int))
 |c,L,h,0,hn=>by
  cases c with
  |nil=>rfl
  |cons s c=>have:=ZQ _ _ h s (by simp);omega
 |c,L,h,n+1,hn=>by
  rw[List.range'_succ,List.flatMap_cons]
  have key:∀ (c:List Sp) (L:Int),dcsOk L c=true->∃ c',c=Qz L (partL c L)++c'/\dcsOk (L+1) c'=true:=by
   intro c
   induction c with
   |nil=>intro L _;exact⟨[],by simp[partL,Qz],rfl⟩
   |cons s c ih=>
    intro L h
    rw[dcsOk,Bool.and_eq_true,Bool.and_eq_true,decide_eq_true_eq,decide_eq_true_eq]at h
    obtain⟨⟨h1,h2⟩,h3⟩:=h
    by_cases e:s.dc=L
    ·rw[e]at h3
     obtain⟨c',hc,hd⟩:=ih L h3
     refine⟨c',?_,hd⟩
     have hp:partL (s :: c) L=(s.fr,s.hi) :: partL c L:=by simp[partL,e]
     rw[hp]
     conv=>lhs;rw[hc]
     unfold Qz
     rw[List.map_cons,List.cons_append]
     congr 1
     cases s;simp at e;simp[e]
    ·refine⟨s :: c,?_,?_⟩
     ·have hp:partL (s :: c) L=[]:=by
       unfold partL
       rw[List.filter_eq_nil_iff.2,List.map_nil]
       intro x hx
       have:s.dc<=x.dc:=by
        rcases List.mem_cons.1 hx with rfl|hx
        ·exact Int.le_refl _
        ·exact (ZQ c s.dc h3 x hx).1
       simp;omega
      rw[hp];rfl
     ·rw[dcsOk,h3];simp;omega
  obtain⟨c',hc,hd⟩:=key c L h
  have ih:=qQa c' (L+1) (by exact_mod_cast hd) n (by omega)
  have hpc:∀ dc:Nat,L+1<=dc->partL c dc=partL c' dc:=fun dc hdc=>by
   rw[hc,V2,Y9,if_neg (by omega)];rfl
  conv=>lhs;rw[hc,ih]
  congr 1
  rw[List.flatMap_def,List.flatMap_def]
  congr 1
  apply List.map_congr_left
  intro i hi
  rw[hpc i (by have:=List.mem_range'_1.1 hi;omega)]
theorem K4 {c:List Sp}(h:Qm c=true):QN (fun i=>partL c i) 4=c:=by
 unfold Qm at h
 rw[Bool.and_eq_true]at h
 have:=qQa c 0 h.1 4 rfl
 unfold QN
 rw[List.range_eq_range']
 exact this.symm
end Go.Proofs.YtbcoelggdikipaaGreat
