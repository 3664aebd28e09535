/- What the laws need. No condition but those that each lemma states. -/
import Derived.BigQuiet
import Derived.Deep.DeepCutAuto
import Derived.Deep.Draws
import Derived.Deep.RegionHeld3
import Derived.Handy
import Derived.Laws.AppendOwnNone
import Derived.Maps.AppendAt
import Derived.WalkKit
import Derived.WalkLawsBesides
import Derived.Test.YtbcoelggdikipaaGreatProg
set_option maxRecDepth 100000
set_option maxHeartbeats 8000000
set_option linter.unusedSimpArgs false
namespace Go.Proofs.YtbcoelggdikipaaGreat
open Go.RowKit
theorem hid {p:Prop}(h:p):Hid p:=h
theorem Qn {k:IntKind}{a b:Int}(h:a=b):Ending.returned (.int k a)=.returned (.int k b):=by rw[h]
theorem Qf {a b:Bool}(h:a=b):Ending.returned (.bool a)=.returned (.bool b):=by rw[h]
def I64 (n:Int):Prop:=-9223372036854775808<=n/\n<=9223372036854775807
def Big:Nat:=140737488355328
structure Dt where
 dc:Int
 n:Int
 deriving DecidableEq,Inhabited
structure En where
 dc:Int
 n:Int
 s:ByteArray
 v:Int
 deriving DecidableEq,Inhabited
structure Sp where
 dc:Int
 fr:Int
 hi:Int
 deriving DecidableEq,Inhabited
inductive Tr where
 |mk (es:List En) (ks:List (ByteArray×Tr))
abbrev Kd:=ByteArray×Tr
theorem Tr.ind {P:Tr->Prop}(h:∀ es ks,(∀ k t,(k,t)∈ks->P t)->P (.mk es ks))(t:Tr):P t:=
 Tr.rec (motive_1:=P) (motive_2:=fun l=>∀ k t,(k,t)∈l->P t) (motive_3:=fun p=>P p.2)
  (fun es ks hk=>h es ks hk) (fun _ _ hk=>by cases hk)
  (fun hd tl h1 h2 k t hk=>by
   rcases List.mem_cons.1 hk with e|e
   ·subst e;exact h1
   ·exact h2 k t e) (fun _ _ h1=>h1) t
def Tr.es:Tr->List En|.mk es _=>es
def Tr.ks:Tr->List Kd|.mk _ ks=>ks
instance:Inhabited Tr:=⟨.mk [] []⟩
structure Ca where
 t:Tr
 c:List Sp
def En.dot (e:En):Dt:=⟨e.dc,e.n⟩
structure Dt.Ok (d:Dt):Prop where
 dc:I64 d.dc
 n:I64 d.n
structure En.Ok (e:En):Prop where
 dc:I64 e.dc
 n:I64 e.n
 v:I64 e.v
 s:e.s.size<=Big
structure Sp.Ok (e:Sp):Prop where
 dc:I64 e.dc
 fr:I64 e.fr
 hi:I64 e.hi
def SlP {α:Type}(w:World)(B sz:Nat)(E:α->List Value->Prop)(v:Value)(xs:List α):Prop:=
 ∃ A c,v=.slice A xs.length c/\xs.length<=c/\xs.length<=Big /\
  (xs≠[]->∃ b off,A=some ⟨b,off,none⟩/\b<B/\∀ j x,xs[j]?=some x->∃ cs,E x cs/\cs.length=sz/\∀ i u,cs[i]?=some u->w.cell? ⟨b,off+j*sz+i,none⟩=some u)
theorem SlP.imp {α:Type}{w w':World}{B B' sz:Nat}{E E':α->List Value->Prop}{v:Value}{xs:List α}(h:SlP w B sz E v xs)(hb:Below B w w')(hB:B<=B')
  (hE:∀ x∈xs,∀ cs,E x cs->E' x cs):SlP w' B' sz E' v xs:=by
 obtain⟨A,c,rfl,h1,h2,h3⟩:=h
 refine⟨A,c,rfl,h1,h2,fun hn=>?_⟩
 obtain⟨b,off,rfl,hlt,hc⟩:=h3 hn
 refine⟨b,off,rfl,by omega,fun j x hx=>?_⟩
 obtain⟨cs,he,hl,hu⟩:=hc j x hx
 exact⟨cs,hE x (List.mem_of_getElem? hx) cs he,hl,fun i u hi=>(hb.cell (p:=⟨b,off+j*sz+i,none⟩) hlt).trans (hu i u hi)⟩
theorem SlP.nil {α:Type}{w:World}{B sz:Nat}{E:α->List Value->Prop}:SlP w B sz E (.slice none 0 0) []:=
 ⟨none,0,rfl,Nat.le_refl _,by simp,fun h=>absurd rfl h⟩
def DtE (d:Dt)(cs:List Value):Prop:=cs=[.int .i64 d.dc,.int .i64 d.n]/\d.Ok
def EnE (e:En)(cs:List Value):Prop:=cs=[.int .i64 e.dc,.int .i64 e.n,.string e.s,.int .i64 e.v]/\e.Ok
def SpE (e:Sp)(cs:List Value):Prop:=cs=[.int .i64 e.dc,.int .i64 e.fr,.int .i64 e.hi]/\e.Ok
def StE (s:ByteArray)(cs:List Value):Prop:=cs=[.string s]/\s.size<=Big
def InE (n:Int)(cs:List Value):Prop:=cs=[.int .i64 n]/\I64 n
def RuE (r:Int×Int)(cs:List Value):Prop:=cs=[.int .i64 r.1,.int .i64 r.2]/\I64 r.1/\I64 r.2
mutual
def Tr.rd (w:World)(B:Nat):Tr->Value->Value->Prop
 |.mk es ks,ve,vk=>SlP w B 4 EnE ve es/\∃ A c,vk=.slice A ks.length c/\ks.length<=c/\ks.length<=Big /\
   (ks≠[]->∃ b off,A=some ⟨b,off,none⟩/\b<B/\Tr.rdL w B b off ks)
def Tr.rdL (w:World)(B:Nat)(b:Nat):Nat->List (ByteArray×Tr)->Prop
 |_,[]=>True
 |off,(k,t) :: ks=>(∃ ve vk,k.size<=Big/\w.cell? ⟨b,off,none⟩=some (.string k)/\w.cell? ⟨b,off+1,none⟩=some ve/\w.cell? ⟨b,off+2,none⟩=some vk/\t.rd w B ve vk)/\Tr.rdL w B b (off+3) ks
end
def KdE (w:World)(B:Nat)(p:Kd)(cs:List Value):Prop:=∃ ve vk,cs=[.string p.1,ve,vk]/\p.1.size<=Big/\p.2.rd w B ve vk
theorem qZb {w:World}{B b:Nat}:∀ (ks:List Kd) (off:Nat),Tr.rdL w B b off ks ↔
  ∀ (j:Nat) (x:Kd),ks[j]?=some x->∃ cs,KdE w B x cs/\cs.length=3/\∀ i u,cs[i]?=some u->w.cell? ⟨b,off+j*3+i,none⟩=some u
 |[],off=>by simp[Tr.rdL]
 |(k,t) :: ks,off=>by
  rw[Tr.rdL,qZb ks (off+3)]
  constructor
  ·rintro⟨⟨ve,vk,h0,h1,h2,h3,h4⟩,h5⟩ j x hx
   match j,hx with
   |0,hx=>
    simp at hx;subst hx
    refine⟨[.string k,ve,vk],⟨ve,vk,rfl,h0,h4⟩,rfl,fun i u hi=>?_⟩
    match i,hi with
    |0,hi=>simp at hi;subst hi;simpa using h1
    |1,hi=>simp at hi;subst hi;simpa using h2
    |2,hi=>simp at hi;subst hi;simpa using h3
    |i+3,hi=>simp at hi
   |j+1,hx=>
    obtain⟨cs,a1,a2,a3⟩:=h5 j x (by simpa using hx)
    refine⟨cs,a1,a2,fun i u hi=>?_⟩
    rw[←a3 i u hi];congr 2;omega
  ·intro h
   refine⟨?_,fun j x hx=>?_⟩
   ·obtain⟨cs,⟨ve,vk,rfl,h0,h4⟩,_,h3⟩:=h 0 (k,t) rfl
    exact⟨ve,vk,h0,by simpa using h3 0 _ rfl,by simpa using h3 1 _ rfl,by simpa using h3 2 _ rfl,h4⟩
   ·obtain⟨cs,a1,a2,a3⟩:=h (j+1) x (by simpa using hx)
    refine⟨cs,a1,a2,fun i u hi=>?_⟩
    rw[←a3 i u hi];congr 2;omega
theorem QA {w:World}{B:Nat}{es:List En}{ks:List Kd}{ve vk:Value}:(Tr.mk es ks).rd w B ve vk↔SlP w B 4 EnE ve es/\SlP w B 3 (KdE w B) vk ks:=by
 rw[Tr.rd]
 refine and_congr Iff.rfl ⟨?_,?_⟩
 ·rintro⟨A,c,rfl,h1,h2,h3⟩
  refine⟨A,c,rfl,h1,h2,fun hn=>?_⟩
  obtain⟨b,off,rfl,hb,hl⟩:=h3 hn
  exact⟨b,off,rfl,hb,(qZb ks off).1 hl⟩
 ·rintro⟨A,c,rfl,h1,h2,h3⟩
  refine⟨A,c,rfl,h1,h2,fun hn=>?_⟩
  obtain⟨b,off,rfl,hb,hl⟩:=h3 hn
  exact⟨b,off,rfl,hb,(qZb ks off).2 hl⟩
theorem Qi {w w':World}{B B':Nat}(hb:Below B w w')(hB:B<=B')(t:Tr):∀ ve vk,t.rd w B ve vk->t.rd w' B' ve vk:=by
 induction t using Tr.ind with
 |h es ks ih=>
  intro ve vk h
  rw[QA]at h ⊢
  refine⟨h.1.imp hb hB fun _ _ _ h=>h,h.2.imp hb hB ?_⟩
  rintro⟨k,t⟩ hx cs ⟨ve,vk,rfl,h0,h1⟩
  exact⟨ve,vk,rfl,h0,ih k t hx ve vk h1⟩
theorem Qj {w:World}{B:Nat}{t:Tr}{ve vk:Value}(h:t.rd w B ve vk):∃ A n A' m,ve=.slice A t.es.length n/\vk=.slice A' t.ks.length m:=by
 obtain⟨es,ks⟩:=t
 rw[QA]at h
 obtain⟨⟨A,n,h1,_⟩,⟨A',m,h2,_⟩⟩:=h
 exact⟨A,n,A',m,h1,h2⟩
theorem qXm {w:World}{B:Nat}:(Tr.mk [] []).rd w B (.slice none 0 0) (.slice none 0 0):=QA.2 ⟨SlP.nil,SlP.nil⟩
mutual
def Tr.Fit:Tr->Prop
 |.mk es ks=>es.length<=Big/\ks.length<=Big/\Tr.FitL ks
def Tr.FitL:List (ByteArray×Tr)->Prop
 |[]=>True
 |(_,t) :: ks=>t.Fit/\Tr.FitL ks
end
theorem qKr:∀ (ks:List Kd),(∀ k t,(k,t)∈ks->t.Fit)->Tr.FitL ks
 |[],_=>trivial
 |(k,t) :: ks,h=>⟨h k t (by simp),qKr ks fun k' t' hk=>h k' t' (by simp[hk])⟩
theorem qXn:∀ {ks:List Kd},Tr.FitL ks->∀ {k t},(k,t)∈ks->t.Fit
 |(_,_) :: _,h,k,t,hk=>by
  rcases List.mem_cons.1 hk with e|e
  ·cases e;exact h.1
  ·exact qXn h.2 e
theorem VM {w:World}{B:Nat}(t:Tr):∀ ve vk,t.rd w B ve vk->t.Fit:=by
 induction t using Tr.ind with
 |h es ks ih=>
  intro ve vk h
  rw[QA]at h
  obtain⟨⟨_,_,_,_,b1,_⟩,⟨_,_,_,_,b2,h3⟩⟩:=h
  refine⟨b1,b2,qKr ks fun k t hk=>?_⟩
  obtain⟨j,hj⟩:=List.getElem?_of_mem hk
  obtain⟨_,_,_,_,h4⟩:=h3 (List.ne_nil_of_mem hk)
  obtain⟨cs,⟨ve,vk,_,_,h5⟩,_⟩:=h4 j _ hj
  exact ih k t hk ve vk h5
def Ca.rd (w:World)(B:Nat)(x:Ca)(ve vk vc:Value):Prop:=x.t.rd w B ve vk/\SlP w B 3 SpE vc x.c
theorem bcell {W w1:World}(hb:Below W.heap.size W w1):(∀ b o,b<W.heap.size->w1.cell? ⟨b,o,none⟩=W.cell? ⟨b,o,none⟩)/\(∀ b o,b<W.heap.size->w1.frozen? ⟨b,o,none⟩=W.frozen? ⟨b,o,none⟩):=
 ⟨fun b o h=>hb.cell (p:=⟨b,o,none⟩) h,fun b o h=>hb.frozen (p:=⟨b,o,none⟩) h⟩
structure Far (B:Nat)(w:World) where
 w':World
 h:Below B w w'
instance Far.some (B:Nat) (w:World):Inhabited (Far B w):=⟨⟨w,Below.refl B w⟩⟩
theorem Qc (B:Nat){P:Program}{id:Nat}{Q:Exit->Act->World->Prop}{a:Act}{w:World}{l:List Oper}(hm:P.follows .mixedOrders=true)(hB:Region.lexB .any l.toArray=true)
  (h:wpQuiet P l.toArray (fun w'=>∃ p:Far B w,w'=p.w') (fun a'=>∀ w',Below B w w'->Q .normal a' w') l a):(Code.region id l.toArray true).wp P Q a w:=by
 refine wp_region_quiet (C:=fun w'=>∃ p:Far B w,w'=p.w') hm hB ⟨⟨_,(Below.refl B w).drew⟩,rfl⟩ ?_
 have e:(fun a'=>∀ w',(∃ p:Far B w,w'=p.w')->Q .normal a' w')=(fun a'=>∀ w',Below B w w'->Q .normal a' w'):=by
  funext a'
  exact propext ⟨fun hh w' hb=>hh w' ⟨⟨w',hb⟩,rfl⟩,fun hh w' ⟨p,hp⟩=>hh w' (hp▸p.h)⟩
 rw[e]
 simpa using h
theorem Calls.far_of {P:Program}{f:FuncId}{args:Array Value}{B:Nat}{w:World}{p:Far B w}{v:Value}(hB:B<=w.heap.size)
  (h:Calls P f args p.w' fun e w'=>e=.returned v/\Below p.w'.heap.size p.w' w'):Calls P f args p.w' fun e w''=>e=.returned v/\∃ q:Far B w,w''=q.w':=
 h.mono fun _ w'' ⟨he,hb⟩=>⟨he,⟨w'',p.h.trans (hb.mono (Nat.le_trans hB p.h.size))⟩,rfl⟩
theorem Calls.far_all {P:Program}{f:FuncId}{args:Array Value}{B:Nat}{w:World}{p:Far B w}{v:Value}(hB:B<=w.heap.size)
  (h:∀ w1,Below B w w1->Calls P f args w1 fun e w'=>e=.returned v/\Below w1.heap.size w1 w'):Calls P f args p.w' fun e w''=>e=.returned v/\∃ q:Far B w,w''=q.w':=
 Calls.far_of hB (h p.w' p.h)
theorem Qh {B:Nat}{w:World}{b o:Nat}{v:Value}(h:w.cell? ⟨b,o,none⟩=some v)(hb:b<B)(p:Far B w):p.w'.cell? ⟨b,o,none⟩=some v:=(p.h.cell (p:=⟨b,o,none⟩) hb).trans h
theorem XX {P:Program}{f:FuncId}{args:Array Value}{w:World}{v:Value}(h:Calls P f args w fun e w'=>e=.returned v/\w=w'):Calls P f args w fun e w'=>e=.returned v/\Below w.heap.size w w':=
 h.mono fun _ _ ⟨he,hw⟩=>⟨he,hw▸Below.refl _ _⟩
theorem QJ {α:Type}{xs:List α}{k:Nat}{x:α}(h:xs[k]?=some x):xs.drop k=x :: xs.drop (k+1):=by
 obtain⟨hlt,hx⟩:=List.getElem?_eq_some_iff.1 h
 rw[List.drop_eq_getElem_cons hlt,hx]
theorem Yx {sz:Nat}:∀ (css:List (List Value)),(∀ cs∈css,cs.length=sz)->∀ j i,i<sz->css.flatten[j*sz+i]?=(css[j]?).bind (·[i]?)
 |[],_,j,i,_=>by simp
 |cs :: css,h,j,i,hi=>by
  have hl:cs.length=sz:=h cs (by simp)
  match j with
  |0=>simp[List.getElem?_append_left (show i<cs.length by omega)]
  |j+1=>
   rw[List.flatten_cons,List.getElem?_append_right (by rw[hl,Nat.add_mul];omega),show (j+1)*sz+i-cs.length=j*sz+i by rw[hl,Nat.add_mul];omega,Yx css (fun c hc=>h c (by simp[hc])) j i hi]
   simp
theorem Xh {sz:Nat}:∀ (css:List (List Value)),(∀ cs∈css,cs.length=sz)->css.flatten.length=css.length*sz
 |[],_=>by simp
 |cs :: css,h=>by
  rw[List.flatten_cons,List.length_append,h cs (by simp),Xh css (fun c hc=>h c (by simp[hc])),List.length_cons,Nat.add_mul];omega
def Encs {α:Type}(sz:Nat)(E:α->List Value->Prop)(xs:List α)(css:List (List Value)):Prop:=
 css.length=xs.length/\∀ (j:Nat) x,xs[j]?=some x->∃ cs,css[j]?=some cs/\E x cs/\cs.length=sz
theorem Encs.len {α:Type}{sz:Nat}{E:α->List Value->Prop}{xs:List α}{css:List (List Value)}(h:Encs sz E xs css):∀ cs∈css,cs.length=sz:=fun cs hcs=>by
 obtain⟨j,hj⟩:=List.getElem?_of_mem hcs
 have hlt:j<xs.length:=by rw[←h.1];exact (List.getElem?_eq_some_iff.1 hj).1
 obtain⟨c,hc,_,hl⟩:=h.2 j _ (List.getElem?_eq_getElem hlt)
 rw[hj]at hc;cases hc;exact hl
theorem Encs.app {α:Type}{sz:Nat}{E:α->List Value->Prop}{xs ys:List α}{css dss:List (List Value)}(h:Encs sz E xs css)(k:Encs sz E ys dss):Encs sz E (xs++ys) (css++dss):=by
 refine⟨by simp[h.1,k.1],fun j x hx=>?_⟩
 rw[List.getElem?_append]at hx ⊢
 rw[h.1]
 split at hx
 ·rename_i hlt;rw[if_pos hlt];exact h.2 j x hx
 ·rename_i hlt;rw[if_neg hlt];exact k.2 _ x hx
def OwnP {α:Type}(w:World)(base:Nat)(e:TypeId)(sz:Nat)(E:α->List Value->Prop)(v:Value)(xs:List α):Prop:=
 ∃ css,Encs sz E xs css/\w.ownsRow base e sz v xs.length css.flatten
section
variable {α:Type}{w w':World}{base:Nat}{e:TypeId}{sz:Nat}{E:α->List Value->Prop}{v:Value}{xs ys:List α}
theorem OwnP.nil:OwnP w base e sz E (.slice none 0 0) ([]:List α):=⟨[],⟨rfl,fun j x h=>by simp at h⟩,World.ownsRow_nil w base e sz⟩
theorem OwnP.keep (h:OwnP w base e sz E v xs)(hk:∀ g,v.ownBlock=some g->w'.heap[g]?=w.heap[g]?):OwnP w' base e sz E v xs:=by
 obtain⟨css,h1,h2,h3⟩:=h
 refine⟨css,h1,h2,?_⟩
 rcases h3 with h3|⟨g,cap,cur,rfl,hb,hg,r⟩
 ·exact .inl h3
 ·exact .inr ⟨g,cap,cur,rfl,hb,by rw[hk g rfl];exact hg,r⟩
theorem OwnP.grow (h:OwnP w base e sz E v xs)(hb:Below w.heap.size w w'):OwnP w' base e sz E v xs:=by
 refine h.keep fun g hg=>hb.block g ?_
 obtain⟨_,_,h2⟩:=h
 exact (h2.lt g hg).2
theorem OwnP.alloc (h:OwnP w base e sz E v xs)(o:Obj):OwnP (w.alloc o) base e sz E v xs:=h.grow ((Below.refl _ w).alloc (Nat.le_refl _) o)
theorem OwnP.drew (h:OwnP w base e sz E v xs):OwnP w.drew base e sz E v xs:=h
theorem OwnP.imp {E':α->List Value->Prop}(h:OwnP w base e sz E v xs)(hE:∀ x∈xs,∀ cs,E x cs->E' x cs):OwnP w base e sz E' v xs:=by
 obtain⟨css,⟨h1,h2⟩,h3⟩:=h
 refine⟨css,⟨h1,fun j x hx=>?_⟩,h3⟩
 obtain⟨cs,a,b,c⟩:=h2 j x hx
 exact⟨cs,a,hE x (List.mem_of_getElem? hx) cs b,c⟩
theorem OwnP.sl (h:OwnP w base e sz E v xs)(hl:xs.length<=Big):SlP w w.heap.size sz E v xs:=by
 obtain⟨css,h1,h2,h3⟩:=h
 rcases h3 with⟨rfl,hn⟩|⟨g,cap,cur,rfl,hb,hg,hn,hm,hc,ht⟩
 ·have hx:xs=[]:=List.eq_nil_of_length_eq_zero hn
  subst hx;exact SlP.nil
 ·refine⟨_,cap,rfl,hn,hl,fun _=>⟨g,0,rfl,(Array.getElem?_eq_some_iff.1 hg).1,fun j x hx=>?_⟩⟩
  obtain⟨cs,a,b,c⟩:=h1.2 j x hx
  refine⟨cs,b,c,fun i u hi=>?_⟩
  have hlt:i<sz:=by rw[←c];exact (List.getElem?_eq_some_iff.1 hi).1
  have hf:css.flatten[j*sz+i]?=some u:=by rw[Yx css h1.len j i hlt,a];exact hi
  rw[Nat.zero_add,cell_of_row w g (j*sz+i) cur e (0,0) hg]
  rw[←ht,List.getElem?_take]at hf
  split at hf
  ·simpa using hf
  ·cases hf
theorem OwnP.lt (h:OwnP w base e sz E v xs):∀ g,v.ownBlock=some g->base<=g/\g<w.heap.size:=by
 obtain⟨_,_,h2⟩:=h
 exact fun g hg=>h2.lt g hg
end
def Qr (P:Program)(t e:TypeId)(sz bytes:Nat):Prop:=
 ∃ i z,P.underlying t=some (.slice e)/\P.info? e=some i/\i.zero=some z/\i.size=sz/\i.bytes=bytes/\z.cells.size=sz
theorem Qr.mk {P:Program}{t e:TypeId}{sz bytes:Nat}{z:Value}(h1:P.underlying t=some (.slice e))(h2:(P.info? e).map (fun i=>(i.zero,i.size,i.bytes))=some (some z,sz,bytes))(h3:z.cells.size=sz):Qr P t e sz bytes:=by
 obtain⟨i,a,b,c,d⟩:=info_parts h2
 exact⟨i,z,h1,a,b,c,d,h3⟩
theorem SlP.one {α:Type}{w:World}{sz n:Nat}{E:α->List Value->Prop}{x:α}{cs:List Value}(hE:E x cs)(hl:cs.length=sz)(e:TypeId)(hn:n=w.heap.size) :
  SlP (w.alloc (.cells cs.toArray e)) (n+1) sz E (.slice (some ⟨n,0,none⟩) 1 1) [x]:=by
 subst hn
 refine⟨_,1,rfl,Nat.le_refl _,by simp[Big],fun _=>⟨_,0,rfl,by omega,fun j y hy=>?_⟩⟩
 match j,hy with
 |0,hy=>
  simp at hy;subst hy
  exact⟨cs,hE,hl,fun i u hi=>by simpa using hi⟩
theorem Vj {α:Type}{P:Program}{w:World}{t ty e:TypeId}{sz bytes base B:Nat}{E:α->List Value->Prop}{v sv:Value}{xs ys:List α}(hi:Qr P t e sz bytes)(hsz:0<sz)
  (hone:∀ x cs,E x cs->∀ u∈cs,u.oneCell'=true) (hown:OwnP w base e sz E v xs) (hys:SlP w B sz E sv ys) (hb:(xs.length+ys.length)*bytes<=140737488355328) (hl:xs.length+ys.length<=Big) (hbase:base<=w.heap.size) :
  ∃ v' w',(Builtin.append_ #[t,t] ty #[v,sv]).run P w=.ok v' w'/\OwnP w' base e sz E v' (xs++ys)/\w.grownBy w' v.ownBlock/\(v'.ownBlock=v.ownBlock∨v'.ownBlock=some w.heap.size):=by
 obtain⟨i,z,ht,hi,hz,hs,hby,hzs⟩:=hi
 obtain⟨css,h1,h2⟩:=hown
 obtain⟨A,c,rfl,c1,c2,c3⟩:=hys
 unfold Big at hl
 cases ys with
 |nil=>
  cases A with
  |none=>
   have hc:(Builtin.append_ #[t,t] ty #[v,.slice none 0 c]).run P w=.ok v w:=by
    rcases h2.2 with⟨rfl,_⟩|⟨g,cap,cur,rfl,_,_,hnc,_⟩
    ·simp[Builtin.append_,run_underlying ht,Go.sizeOf,typeInfo,hi,Builtin.lenOf,Builtin.firstCells]
    ·simp[Builtin.append_,run_underlying ht,Go.sizeOf,typeInfo,hi,Builtin.lenOf,Builtin.firstCells,hnc,storeCells]
   exact⟨v,w,hc,by rw[List.append_nil];exact⟨css,h1,h2⟩,World.grownBy.refl _ _,.inl rfl⟩
  |some ad=>
   obtain⟨v',w',r1,r2,r3,_,r4⟩:=run_append_own_at (P:=P) w base t ty e i z sz bytes ht hi hz hs hby hzs hsz v xs.length css.flatten h2 ad 0 c [] (by simp) (fun j u hu=>by simp at hu) (fun u hu=>by cases hu) (by simp only[maxLen,List.length_nil]at *;omega) (by simpa using hb) hbase
   exact⟨v',w',r1,by rw[List.append_nil];exact⟨css,h1,by simpa using r2⟩,r3,r4⟩
 |cons y ys=>
  obtain⟨b,off,rfl,hlt,hc⟩:=c3 (by simp)
  have hd:∀ (j:Nat),j<(y :: ys).length->∃ cs,(∃ x,(y :: ys)[j]?=some x/\E x cs)/\cs.length=sz/\∀ i u,cs[i]?=some u->w.cell? ⟨b,off+j*sz+i,none⟩=some u:=fun j hj=>by
   obtain⟨cs,a1,a2,a3⟩:=hc j _ (List.getElem?_eq_getElem hj)
   exact⟨cs,⟨_,List.getElem?_eq_getElem hj,a1⟩,a2,a3⟩
  have hds:∃ dss:List (List Value),Encs sz E (y :: ys) dss/\∀ (j:Nat) cs,dss[j]?=some cs->∀ i u,cs[i]?=some u->w.cell? ⟨b,off+j*sz+i,none⟩=some u:=by
   classical
   refine⟨(List.range (y :: ys).length).map fun j=>if hj:j<(y :: ys).length then Classical.choose (hd j hj) else [],⟨by simp,fun j x hx=>?_⟩,fun j cs hj=>?_⟩
   ·have hj:=(List.getElem?_eq_some_iff.1 hx).1
    refine⟨_,by rw[List.getElem?_map,List.getElem?_range hj];rfl,?_⟩
    simp only[dif_pos hj]
    obtain⟨⟨x',e1,e2⟩,e3,_⟩:=Classical.choose_spec (hd j hj)
    rw[hx]at e1;cases e1
    exact⟨e2,e3⟩
   ·have hlt:=(List.getElem?_eq_some_iff.1 hj).1
    simp only[List.length_map,List.length_range]at hlt
    rw[List.getElem?_map,List.getElem?_range hlt]at hj
    simp only[Option.map_some,dif_pos hlt,Option.some.injEq]at hj
    subst hj
    exact (Classical.choose_spec (hd j hlt)).2.2
  obtain⟨dss,k1,k2⟩:=hds
  have hfl:=Xh dss k1.len
  obtain⟨v',w',r1,r2,r3,_,r4⟩:=run_append_own_at (P:=P) w base t ty e i z sz bytes ht hi hz hs hby hzs hsz v xs.length css.flatten h2 ⟨b,off,none⟩ (y :: ys).length c dss.flatten (by rw[hfl,k1.1]) (fun j u hu=>by
   have hj:j<(y :: ys).length*sz:=by rw[←k1.1,←hfl];exact (List.getElem?_eq_some_iff.1 hu).1
   have hm:j % sz<sz:=Nat.mod_lt _ hsz
   have hdj:j=j / sz*sz+j % sz:=by rw[Nat.mul_comm];exact (Nat.div_add_mod j sz).symm
   rw[hdj,Yx dss k1.len _ _ hm]at hu
   obtain⟨cs,hcs,hu⟩:=Option.bind_eq_some_iff.1 hu
   rw[Addr.add_lit,hdj,←Nat.add_assoc]
   exact k2 _ cs hcs _ u hu) (fun u hu=>by
   obtain⟨cs,hcs,hu⟩:=List.mem_flatten.1 hu
   obtain⟨j,hj⟩:=List.getElem?_of_mem hcs
   have hlt:j<(y :: ys).length:=by rw[←k1.1];exact (List.getElem?_eq_some_iff.1 hj).1
   obtain⟨c,hc,he,_⟩:=k1.2 j _ (List.getElem?_eq_getElem hlt)
   rw[hj]at hc;cases hc
   exact hone _ _ he u hu) (by simp only[maxLen]at *;omega) hb hbase
  refine⟨v',w',r1,⟨css++dss,h1.app k1,?_⟩,r3,r4⟩
  rw[List.flatten_append,List.length_append]
  exact r2
theorem XY {α:Type}{P:Program}{ops:Array Oper}{rest:List Oper}{o:Oper}{a:Act}{Q:Exit->Act->World->Prop}{w:World}(hg:o.guard=none)(s x:Operand)(t:TypeId)
  (hop:o.op=.call { callee:=.builtin .append,args:=#[s,x],argTypes:=#[t,t] }){e:TypeId}{sz bytes base B:Nat}{E:α->List Value->Prop}{v sv:Value}{xs ys:List α}(hi:Qr P t e sz bytes) (hsz:0<sz)
  (hone:∀ x cs,E x cs->∀ u∈cs,u.oneCell'=true) (hs:a.eval s=v) (hown:OwnP w base e sz E v xs) (hx:a.eval x=sv) (hys:SlP w B sz E sv ys) (hb:(xs.length+ys.length)*bytes<=140737488355328) (hl:xs.length+ys.length<=Big) (hbase:base<=w.heap.size)
  (h:∀ v' w',OwnP w' base e sz E v' (xs++ys)->w.grownBy w' v.ownBlock->(v'.ownBlock=v.ownBlock∨v'.ownBlock=some w.heap.size)->wpList P ops Q rest (a.put o.dst v') w'):wpList P ops Q (o :: rest) a w:=by
 refine wpList_plain hg fun K hK=>?_
 obtain⟨v',w',r1,r2,r3,r4⟩:=Vj (P:=P) (ty:=o.type) hi hsz hone hown hys hb hl hbase
 unfold Oper.wp execOp
 simp only[hop,resolve,invoke,builtin,Sem.run_bind,Sem.run_pure,Result.andThen_ok,List.map_toArray,List.map_cons,List.map_nil,hs,hx,r1]
 exact hK _ _ (h v' w' r2 r3 r4)
theorem OwnP.mono {α:Type}{w:World}{base base':Nat}{e:TypeId}{sz:Nat}{E:α->List Value->Prop}{v:Value}{xs:List α}(h:OwnP w base e sz E v xs)(hb:base'<=base):OwnP w base' e sz E v xs:=by
 obtain⟨css,h1,h2,h3⟩:=h
 refine⟨css,h1,h2,?_⟩
 rcases h3 with h3|⟨g,cap,cur,a,b,r⟩
 ·exact .inl h3
 ·exact .inr ⟨g,cap,cur,a,Nat.le_trans hb b,r⟩
def RetO {α:Type}(w:World)(t:TypeId)(sz:Nat)(E:World->α->List Value->Prop)(xs:List α)(e:Ending)(w':World):Prop:=
 ∃ v,e=.returned v/\OwnP w' w.heap.size t sz (E w') v xs/\Below w.heap.size w w'
theorem SlP.two {α:Type}{w:World}{sz n:Nat}{E:α->List Value->Prop}{x y:α}{cs ds:List Value}(hE:E x cs)(hF:E y ds)(hl:cs.length=sz)(hl':ds.length=sz)(e:TypeId)(hn:n=w.heap.size) :
  SlP (w.alloc (.cells (cs++ds).toArray e)) (n+1) sz E (.slice (some ⟨n,0,none⟩) 2 2) [x,y]:=by
 subst hn
 refine⟨_,2,rfl,Nat.le_refl _,by simp[Big],fun _=>⟨_,0,rfl,by omega,fun j z hz=>?_⟩⟩
 match j,hz with
 |0,hz=>
  simp at hz;subst hz
  refine⟨cs,hE,hl,fun i u hi=>?_⟩
  rw[World.cell?_alloc_new]
  have:i<cs.length:=(List.getElem?_eq_some_iff.1 hi).1
  simpa[List.getElem?_append_left this] using hi
 |1,hz=>
  simp at hz;subst hz
  refine⟨ds,hF,hl',fun i u hi=>?_⟩
  rw[World.cell?_alloc_new]
  simpa[←hl,List.getElem?_append_right (show cs.length<=cs.length+i by omega)] using hi
def Few:Nat:=1000000
theorem Qk {α:Type}{P:Program}{ops:Array Oper}{rest:List Oper}{o:Oper}{a:Act}{Q:Exit->Act->World->Prop}{w:World}(hg:o.guard=none)(s x:Operand)(t:TypeId)
  (hop:o.op=.call { callee:=.builtin .append,args:=#[s,x],argTypes:=#[t,t] }){e:TypeId}{sz bytes base B:Nat}{E:α->List Value->Prop}{v sv:Value}{xs ys:List α}(hi:Qr P t e sz bytes) (hsz:0<sz) (hby:bytes<=1000)
  (hone:∀ x cs,E x cs->∀ u∈cs,u.oneCell'=true) (hs:a.eval s=v) (hown:OwnP w base e sz E v xs) (hx:a.eval x=sv) (hys:SlP w B sz E sv ys) (hl:xs.length+ys.length<=Few) (hbase:base<=w.heap.size)
  (h:∀ v' w',OwnP w' base e sz E v' (xs++ys)->Below base w w'->w.grownBy w' v.ownBlock->wpList P ops Q rest (a.put o.dst v') w'):wpList P ops Q (o :: rest) a w:=by
 unfold Few at hl
 refine XY hg s x t hop hi hsz hone hs hown hx hys (Nat.le_trans (Nat.mul_le_mul hl hby) (by omega)) (by unfold Big;omega) hbase fun v' w' h1 h2 _=>h v' w' h1 ((Below.refl base w).grown h2 hbase fun g hg=>(hown.lt g hg).1) h2
theorem ZW {α:Type}{P:Program}{ops:Array Oper}{o:Oper}{a:Act}{K:Act->World->Prop}{Q:Exit->Act->World->Prop}{F:Prop}{w:World}(hg:o.guard=none)(s x:Operand)(t:TypeId)
  (hop:o.op=.call { callee:=.builtin .append,args:=#[s,x],argTypes:=#[t,t] }){e:TypeId}{sz bytes base B:Nat}{E:α->List Value->Prop}{v sv:Value}{xs ys:List α}(hi:Qr P t e sz bytes) (hsz:0<sz) (hby:bytes<=1000)
  (hone:∀ x cs,E x cs->∀ u∈cs,u.oneCell'=true) (hs:a.eval s=v) (hown:OwnP w base e sz E v xs) (hx:a.eval x=sv) (hys:SlP w B sz E sv ys) (hl:xs.length+ys.length<=Few) (hbase:base<=w.heap.size)
  (h:∀ v' w',OwnP w' base e sz E v' (xs++ys)->Below base w w'->w.grownBy w' v.ownBlock->K (a.put o.dst v') w') :
  if Region.wanted o (yielded ops a.tmps)=true then Oper.wp P o a w K Q else F:=by
 have hw:Region.wanted o (yielded ops a.tmps)=true:=by simp[Region.wanted,hg]
 rw[if_pos hw]
 unfold Few at hl
 obtain⟨v',w',r1,r2,r3,r4⟩:=Vj (P:=P) (ty:=o.type) hi hsz hone hown hys (Nat.le_trans (Nat.mul_le_mul hl hby) (by omega)) (by unfold Big;omega) hbase
 unfold Oper.wp execOp
 simp only[hop,resolve,invoke,builtin,Sem.run_bind,Sem.run_pure,Result.andThen_ok,List.map_toArray,List.map_cons,List.map_nil,hs,hx,r1]
 exact h v' w' r2 ((Below.refl base w).grown r3 hbase fun g hg=>(hown.lt g hg).1) r3
theorem OwnP.form {α:Type}{w:World}{base:Nat}{e:TypeId}{sz:Nat}{E:α->List Value->Prop}{v:Value}{xs:List α}(h:OwnP w base e sz E v xs)(hn:xs≠[]) :
  ∃ g cap,v=.slice (some ⟨g,0,none⟩) xs.length cap/\base<=g/\g<w.heap.size/\(∀ o,w.frozen? ⟨g,o,none⟩=false):=by
 obtain⟨css,h1,h2⟩:=h
 rcases h2.2 with⟨_,hz⟩|⟨g,cap,cur,rfl,hb,hg,_⟩
 ·exact absurd (List.eq_nil_of_length_eq_zero hz) hn
 ·exact⟨g,cap,rfl,hb,(Array.getElem?_eq_some_iff.1 hg).1,fun o=>h2.frozenAt o⟩
theorem OwnP.shape {α:Type}{w:World}{base:Nat}{e:TypeId}{sz:Nat}{E:α->List Value->Prop}{v:Value}{xs:List α}(h:OwnP w base e sz E v xs):∃ A cap,v=.slice A xs.length cap:=by
 obtain⟨css,h1,h2⟩:=h
 rcases h2.2 with⟨rfl,hz⟩|⟨g,cap,cur,rfl,_⟩
 ·exact⟨none,0,by rw[hz]⟩
 ·exact⟨_,cap,rfl⟩
theorem OwnP.setRun {w:World}{base:Nat}{e:TypeId}{v:Value}{xs:List (Int×Int)}(h:OwnP w base e 2 RuE v xs){j:Nat}{r:Int×Int}(hj:xs[j]?=some r){z:Int}(hz:I64 z) :
  ∃ g cap,v=.slice (some ⟨g,0,none⟩) xs.length cap/\base<=g/\g<w.heap.size/\w.cell? ⟨g,j*2,none⟩=some (.int .i64 r.1)/\w.cell? ⟨g,j*2+1,none⟩=some (.int .i64 r.2)/\(∀ o,w.frozen? ⟨g,o,none⟩=false) /\
   OwnP (w.setCell ⟨g,j*2+1,none⟩ (.int .i64 z)) base e 2 RuE v (xs.set j (r.1,z)):=by
 obtain⟨css,h1,h2⟩:=h
 have hlt:=(List.getElem?_eq_some_iff.1 hj).1
 obtain⟨cs,hcs,⟨rfl,hr⟩,_⟩:=h1.2 j r hj
 rcases h2.2 with⟨_,hz⟩|⟨g,cap,cur,rfl,hb,hg,_⟩
 ·omega
 ·refine⟨g,cap,rfl,hb,(Array.getElem?_eq_some_iff.1 hg).1,?_,?_,fun o=>h2.frozenAt o,?_⟩
  ·rw[h2.cellAt (j*2) (by omega)]
   have:=Yx css h1.len j 0 (by omega)
   rw[hcs]at this;simpa using this
  ·rw[h2.cellAt (j*2+1) (by omega)]
   have:=Yx css h1.len j 1 (by omega)
   rw[hcs]at this;simpa using this
  ·have h3:=(h2.stored (j*2+1) (.int .i64 z)).1
   have hlen:∀ c∈css.set j [.int .i64 r.1,.int .i64 z],c.length=2:=fun c hc=>by
    rcases List.mem_or_eq_of_mem_set hc with h|h
    ·exact h1.len c h
    ·rw[h];rfl
   have hf:css.flatten.set (j*2+1) (.int .i64 z)=(css.set j [.int .i64 r.1,.int .i64 z]).flatten:=by
    apply List.ext_getElem?
    intro i
    have hd:i=i / 2*2+i % 2:=by omega
    have hm:i % 2<2:=by omega
    have a1:=Yx css h1.len (i / 2) (i % 2) hm
    have a2:=Yx _ hlen (i / 2) (i % 2) hm
    rw[←hd]at a1 a2
    rw[a2,List.getElem?_set,List.getElem?_set,a1]
    have hfl:=Xh css h1.len
    have hcl:=h1.1
    by_cases hij:j=i / 2
    ·subst hij
     have hl1:i / 2<css.length:=by omega
     rw[hcs,if_pos rfl,if_pos hl1]
     rcases (show i % 2=0∨i % 2=1 by omega) with h0|h0
     ·rw[if_neg (show ¬i / 2*2+1=i by omega),h0];rfl
     ·rw[if_pos (show i / 2*2+1=i by omega),if_pos (show i / 2*2+1<css.flatten.length by omega),h0];rfl
    ·rw[if_neg (show ¬j*2+1=i by omega),if_neg hij]
   rw[hf]at h3
   refine⟨css.set j [.int .i64 r.1,.int .i64 z],⟨by simpa using h1.1,fun i x hx=>?_⟩,by rw[List.length_set];exact h3⟩
   rw[List.getElem?_set]at hx ⊢
   have hcl:=h1.1
   by_cases hij:j=i
   ·subst hij
    rw[if_pos rfl,if_pos hlt]at hx
    rw[if_pos rfl,if_pos (show j<css.length by omega)]
    cases hx
    exact⟨_,rfl,⟨rfl,hr.1,hz⟩,rfl⟩
   ·rw[if_neg hij]at hx ⊢
    exact h1.2 i x hx
theorem DtE.one {x:Dt}{cs:List Value}(h:DtE x cs):∀ u∈cs,u.oneCell'=true:=by obtain⟨rfl,_⟩:=h;simp[Value.oneCell']
theorem EnE.one {x:En}{cs:List Value}(h:EnE x cs):∀ u∈cs,u.oneCell'=true:=by obtain⟨rfl,_⟩:=h;simp[Value.oneCell']
theorem SpE.one {x:Sp}{cs:List Value}(h:SpE x cs):∀ u∈cs,u.oneCell'=true:=by obtain⟨rfl,_⟩:=h;simp[Value.oneCell']
theorem StE.one {x:ByteArray}{cs:List Value}(h:StE x cs):∀ u∈cs,u.oneCell'=true:=by obtain⟨rfl,_⟩:=h;simp[Value.oneCell']
theorem InE.one {x:Int}{cs:List Value}(h:InE x cs):∀ u∈cs,u.oneCell'=true:=by obtain⟨rfl,_⟩:=h;simp[Value.oneCell']
theorem RuE.one {x:Int×Int}{cs:List Value}(h:RuE x cs):∀ u∈cs,u.oneCell'=true:=by obtain⟨rfl,_⟩:=h;simp[Value.oneCell']
theorem eiDot:Qr Tryz.prog 147 78 2 16:=Qr.mk (z:=.agg #[.int .i64 0,.int .i64 0]) Tryz.underlying147 (by kernel_rfl) rfl
theorem JF:Qr Tryz.prog 27 45 3 24:=Qr.mk (z:=.agg #[.int .i64 0,.int .i64 0,.int .i64 0]) Tryz.underlying27 (by kernel_rfl) rfl
theorem Vk:Qr Tryz.prog 182 2 1 8:=Qr.mk (z:=.int .i64 0) Tryz.underlying182 (by kernel_rfl) rfl
theorem eiRun:Qr Tryz.prog 160 167 2 16:=Qr.mk (z:=.agg #[.int .i64 0,.int .i64 0]) Tryz.underlying160 (by kernel_rfl) rfl
theorem Yc:Qr Tryz.prog 131 166 2 16:=Qr.mk (z:=.agg #[.int .i64 0,.int .i64 0]) Tryz.underlying131 (by kernel_rfl) rfl
theorem Yy:Qr Tryz.prog 22 80 4 40:=Qr.mk (z:=.agg #[.int .i64 0,.int .i64 0,.string ByteArray.empty,.int .i64 0]) Tryz.underlying22 (by kernel_rfl) rfl
theorem eiKid:Qr Tryz.prog 23 96 3 64:=Qr.mk (z:=.agg #[.string ByteArray.empty,.slice none 0 0,.slice none 0 0]) Tryz.underlying23 (by kernel_rfl) rfl
theorem Yz:Qr Tryz.prog 88 91 5 64:=Qr.mk (z:=.agg #[.slice none 0 0,.int .i64 0,.int .i64 0,.string ByteArray.empty,.int .i64 0]) Tryz.underlying88 (by kernel_rfl) rfl
theorem eiStr:Qr Tryz.prog 30 9 1 16:=Qr.mk (z:=.string ByteArray.empty) Tryz.underlying30 (by kernel_rfl) rfl
def SlA {α:Type}(w:World)(ok:Nat->Prop)(sz:Nat)(E:α->List Value->Prop)(v:Value)(xs:List α):Prop:=
 ∃ A c,v=.slice A xs.length c/\xs.length<=c/\xs.length<=Big /\
  (xs≠[]->∃ b off,A=some ⟨b,off,none⟩/\ok b/\∀ j x,xs[j]?=some x->∃ cs,E x cs/\cs.length=sz/\∀ i u,cs[i]?=some u->w.cell? ⟨b,off+j*sz+i,none⟩=some u)
theorem Z8 {α:Type}{w:World}{B sz:Nat}{E:α->List Value->Prop}{v:Value}{xs:List α}:SlP w B sz E v xs↔SlA w (fun b=>b<B) sz E v xs:=Iff.rfl
def Keeps (ok:Nat->Prop)(w w':World):Prop:=∀ b,ok b->w'.heap[b]?=w.heap[b]?
theorem SlA.up {α:Type}{w w':World}{ok ok':Nat->Prop}{sz:Nat}{E E':α->List Value->Prop}{v:Value}{xs:List α}(h:SlA w ok sz E v xs)(hk:Keeps ok w w')(ho:∀ b,ok b->ok' b)
  (hE:∀ x∈xs,∀ cs,E x cs->E' x cs):SlA w' ok' sz E' v xs:=by
 obtain⟨A,c,rfl,h1,h2,h3⟩:=h
 refine⟨A,c,rfl,h1,h2,fun hn=>?_⟩
 obtain⟨b,off,rfl,hlt,hc⟩:=h3 hn
 refine⟨b,off,rfl,ho b hlt,fun j x hx=>?_⟩
 obtain⟨cs,he,hl,hu⟩:=hc j x hx
 exact⟨cs,hE x (List.mem_of_getElem? hx) cs he,hl,fun i u hi=>(World.cell?_of_block (w:=w) (hk b hlt)).trans (hu i u hi)⟩
mutual
def Tr.rda (w:World)(ok:Nat->Prop):Tr->Value->Value->Prop
 |.mk es ks,ve,vk=>SlA w ok 4 EnE ve es/\∃ A c,vk=.slice A ks.length c/\ks.length<=c/\ks.length<=Big /\
   (ks≠[]->∃ b off,A=some ⟨b,off,none⟩/\ok b/\Tr.rdaL w ok b off ks)
def Tr.rdaL (w:World)(ok:Nat->Prop)(b:Nat):Nat->List (ByteArray×Tr)->Prop
 |_,[]=>True
 |off,(k,t) :: ks=>(∃ ve vk,k.size<=Big/\w.cell? ⟨b,off,none⟩=some (.string k)/\w.cell? ⟨b,off+1,none⟩=some ve/\w.cell? ⟨b,off+2,none⟩=some vk/\t.rda w ok ve vk)/\Tr.rdaL w ok b (off+3) ks
end
def KdA (w:World)(ok:Nat->Prop)(p:Kd)(cs:List Value):Prop:=∃ ve vk,cs=[.string p.1,ve,vk]/\p.1.size<=Big/\p.2.rda w ok ve vk
theorem Vl {w:World}{ok:Nat->Prop}{b:Nat}:∀ (ks:List Kd) (off:Nat),Tr.rdaL w ok b off ks ↔
  ∀ (j:Nat) (x:Kd),ks[j]?=some x->∃ cs,KdA w ok x cs/\cs.length=3/\∀ i u,cs[i]?=some u->w.cell? ⟨b,off+j*3+i,none⟩=some u
 |[],off=>by simp[Tr.rdaL]
 |(k,t) :: ks,off=>by
  rw[Tr.rdaL,Vl ks (off+3)]
  constructor
  ·rintro⟨⟨ve,vk,h0,h1,h2,h3,h4⟩,h5⟩ j x hx
   match j,hx with
   |0,hx=>
    simp at hx;subst hx
    refine⟨[.string k,ve,vk],⟨ve,vk,rfl,h0,h4⟩,rfl,fun i u hi=>?_⟩
    match i,hi with
    |0,hi=>simp at hi;subst hi;simpa using h1
    |1,hi=>simp at hi;subst hi;simpa using h2
    |2,hi=>simp at hi;subst hi;simpa using h3
    |i+3,hi=>simp at hi
   |j+1,hx=>
    obtain⟨cs,a1,a2,a3⟩:=h5 j x (by simpa using hx)
    refine⟨cs,a1,a2,fun i u hi=>?_⟩
    rw[←a3 i u hi];congr 2;omega
  ·intro h
   refine⟨?_,fun j x hx=>?_⟩
   ·obtain⟨cs,⟨ve,vk,rfl,h0,h4⟩,_,h3⟩:=h 0 (k,t) rfl
    exact⟨ve,vk,h0,by simpa using h3 0 _ rfl,by simpa using h3 1 _ rfl,by simpa using h3 2 _ rfl,h4⟩
   ·obtain⟨cs,a1,a2,a3⟩:=h (j+1) x (by simpa using hx)
    refine⟨cs,a1,a2,fun i u hi=>?_⟩
    rw[←a3 i u hi];congr 2;omega
theorem Zh {w:World}{ok:Nat->Prop}{es:List En}{ks:List Kd}{ve vk:Value}:(Tr.mk es ks).rda w ok ve vk↔SlA w ok 4 EnE ve es/\SlA w ok 3 (KdA w ok) vk ks:=by
 rw[Tr.rda]
 refine and_congr Iff.rfl ⟨?_,?_⟩
 ·rintro⟨A,c,rfl,h1,h2,h3⟩
  refine⟨A,c,rfl,h1,h2,fun hn=>?_⟩
  obtain⟨b,off,rfl,hb,hl⟩:=h3 hn
  exact⟨b,off,rfl,hb,(Vl ks off).1 hl⟩
 ·rintro⟨A,c,rfl,h1,h2,h3⟩
  refine⟨A,c,rfl,h1,h2,fun hn=>?_⟩
  obtain⟨b,off,rfl,hb,hl⟩:=h3 hn
  exact⟨b,off,rfl,hb,(Vl ks off).2 hl⟩
theorem zZq {w:World}{B:Nat}(t:Tr):∀ ve vk,t.rd w B ve vk↔t.rda w (fun b=>b<B) ve vk:=by
 induction t using Tr.ind with
 |h es ks ih=>
  intro ve vk
  rw[QA,Zh,Z8,Z8]
  refine and_congr Iff.rfl ⟨fun h=>h.up (fun _ _=>rfl) (fun _ h=>h) ?_,fun h=>h.up (fun _ _=>rfl) (fun _ h=>h) ?_⟩
  ·rintro⟨k,t⟩ hx cs ⟨ve,vk,rfl,h0,h1⟩
   exact⟨ve,vk,rfl,h0,(ih k t hx ve vk).1 h1⟩
  ·rintro⟨k,t⟩ hx cs ⟨ve,vk,rfl,h0,h1⟩
   exact⟨ve,vk,rfl,h0,(ih k t hx ve vk).2 h1⟩
theorem Qs {w w':World}{ok ok':Nat->Prop}(hk:Keeps ok w w')(ho:∀ b,ok b->ok' b)(t:Tr):∀ ve vk,t.rda w ok ve vk->t.rda w' ok' ve vk:=by
 induction t using Tr.ind with
 |h es ks ih=>
  intro ve vk h
  rw[Zh]at h ⊢
  refine⟨h.1.up hk ho fun _ _ _ h=>h,h.2.up hk ho ?_⟩
  rintro⟨k,t⟩ hx cs ⟨ve,vk,rfl,h0,h1⟩
  exact⟨ve,vk,rfl,h0,ih k t hx ve vk h1⟩
mutual
def Tr.sz:Tr->Nat
 |.mk es ks=>es.length+Tr.szL ks
def Tr.szL:List (ByteArray×Tr)->Nat
 |[]=>0
 |(_,t) :: ks=>1+t.sz+Tr.szL ks
end
theorem qZc {ks:List Kd}{k:ByteArray}{t:Tr}(h:(k,t)∈ks):1+t.sz<=Tr.szL ks:=by
 induction ks with
 |nil=>cases h
 |cons y ks ih=>
  obtain⟨yk,yt⟩:=y
  rw[Tr.szL]
  rcases List.mem_cons.1 h with e|e
  ·cases e;omega
  ·have:=ih e;omega
theorem qU6 {ks:List Kd}{k:Nat}{x:Kd}(h:ks[k]?=some x):Tr.szL (ks.take (k+1))=Tr.szL (ks.take k)+(1+x.2.sz):=by
 induction ks generalizing k with
 |nil=>simp at h
 |cons y ks ih=>
  obtain⟨yk,yt⟩:=y
  cases k with
  |zero=>simp at h;subst h;simp[Tr.szL]
  |succ k=>simp only[List.take_succ_cons];rw[Tr.szL,Tr.szL,ih (by simpa using h)];omega
theorem zYm {ks:List Kd}(k:Nat):Tr.szL (ks.take k)<=Tr.szL ks:=by
 induction ks generalizing k with
 |nil=>simp
 |cons y ks ih=>
  obtain⟨yk,yt⟩:=y
  cases k with
  |zero=>simp[Tr.szL]
  |succ k=>simp only[List.take_succ_cons];rw[Tr.szL,Tr.szL];have:=ih k;omega
theorem JG (ks:List Kd):ks.length<=Tr.szL ks:=by
 induction ks with
 |nil=>simp
 |cons y ks ih=>obtain⟨yk,yt⟩:=y;rw[Tr.szL];simp;omega
theorem Qd {w:World}{o:Obj}{n:Nat}(h:n=w.heap.size):(w.alloc o).heap[n]?=some o:=by subst h;exact heap_alloc_new w o
theorem Qg {w:World}{o:Obj}{n:Nat}(h:n<w.heap.size):(w.alloc o).heap[n]?=w.heap[n]?:=Below.heap_alloc w o n h
theorem OwnP.empty {α:Type}{w:World}{base n:Nat}{e:TypeId}{sz:Nat}{E:α->List Value->Prop}(h:w.heap[n]?=some (.cells #[] e (0,0)))(hb:base<=n):OwnP w base e sz E (.slice (some ⟨n,0,none⟩) 0 0) ([]:List α):=
 ⟨[],⟨rfl,fun j x h=>by simp at h⟩,by simp,.inr ⟨n,0,#[],rfl,hb,h,Nat.le_refl _,by simp[maxLen],by simp,by simp⟩⟩
theorem SlP.oneB {α:Type}{w:World}{sz n B:Nat}{E:α->List Value->Prop}{x:α}{cs:List Value}(hE:E x cs)(hl:cs.length=sz)(e:TypeId)(hn:n=w.heap.size)(hB:n<B) :
  SlP (w.alloc (.cells cs.toArray e)) B sz E (.slice (some ⟨n,0,none⟩) 1 1) [x]:=(SlP.one hE hl e hn).imp (Below.refl _ _) (by omega) fun _ _ _ h=>h
theorem SlP.at1 {w:World}{B n:Nat}{s:ByteArray}(h:w.cell? ⟨n,0,none⟩=some (.string s))(hs:s.size<=Big)(hB:n<B):SlP w B 1 StE (.slice (some ⟨n,0,none⟩) 1 1) [s]:=by
 refine⟨_,1,rfl,Nat.le_refl _,by simp[Big],fun _=>⟨_,0,rfl,hB,fun j y hy=>?_⟩⟩
 match j,hy with
 |0,hy=>
  simp at hy;subst hy
  refine⟨[.string s],⟨rfl,hs⟩,rfl,fun i u hi=>?_⟩
  match i,hi with
  |0,hi=>simp at hi;subst hi;simpa using h
  |i+1,hi=>simp at hi
abbrev Lf:=List ByteArray×En
def LfA (w:World)(ok:Nat->Prop)(x:Lf)(cs:List Value):Prop:=
 ∃ A c,cs=[.slice A x.1.length c,.int .i64 x.2.dc,.int .i64 x.2.n,.string x.2.s,.int .i64 x.2.v]/\SlA w ok 1 StE (.slice A x.1.length c) x.1/\x.2.Ok
structure Emon {α:Type}(E:World->(Nat->Prop)->α->List Value->Prop):Prop where
 up:∀ {w w':World}{ok ok':Nat->Prop}{x:α}{cs:List Value},Keeps ok w w'->(∀ b,ok b->ok' b)->E w ok x cs->E w' ok' x cs
 one:∀ {w:World}{ok:Nat->Prop}{x:α}{cs:List Value},E w ok x cs->∀ u∈cs,u.oneCell'=true
theorem LfA.mon:Emon LfA where
 up:=fun hk ho ⟨A,c,h1,h2,h3⟩=>⟨A,c,h1,h2.up hk ho fun _ _ _ h=>h,h3⟩
 one:=by rintro w ok x cs ⟨A,c,rfl,_⟩;simp[Value.oneCell']
theorem Ql {w:World}{ok:Nat->Prop}{t:Tr}{ve vk:Value}(h:t.rda w ok ve vk):∃ A n A' m,ve=.slice A t.es.length n/\vk=.slice A' t.ks.length m:=by
 obtain⟨es,ks⟩:=t
 rw[Zh]at h
 obtain⟨⟨A,n,h1,_⟩,⟨A',m,h2,_⟩⟩:=h
 exact⟨A,n,A',m,h1,h2⟩
theorem KdA.mon:Emon KdA where
 up:=fun hk ho ⟨ve,vk,h1,h2,h3⟩=>⟨ve,vk,h1,h2,Qs hk ho _ _ _ h3⟩
 one:=by
  rintro w ok x cs ⟨ve,vk,rfl,_,h⟩
  obtain⟨A,n,A',m,rfl,rfl⟩:=Ql h
  simp[Value.oneCell']
def OwnD {α:Type}(w:World)(base:Nat)(e:TypeId)(sz:Nat)(E:World->(Nat->Prop)->α->List Value->Prop)(okp:Nat->Prop)(v:Value)(xs:List α):Prop:=
 OwnP w base e sz (E w (fun b=>okp b/\b<w.heap.size/\v.ownBlock≠some b)) v xs
theorem OwnP.sla {α:Type}{w:World}{base:Nat}{e:TypeId}{sz:Nat}{E:α->List Value->Prop}{v:Value}{xs:List α}(h:OwnP w base e sz E v xs)(hl:xs.length<=Big):SlA w (fun b=>base<=b/\b<w.heap.size/\v.ownBlock=some b) sz E v xs:=by
 have hs:=h.sl hl
 obtain⟨A,c,hv,h1,h2,h3⟩:=hs
 refine⟨A,c,hv,h1,h2,fun hn=>?_⟩
 obtain⟨g,cap,hv',hb,hg,_⟩:=h.form hn
 obtain⟨b,off,hA,hlt,hc⟩:=h3 hn
 subst hA
 rw[hv]at hv'
 simp only[Value.slice.injEq,Option.some.injEq,Addr.mk.injEq]at hv'
 obtain⟨⟨rfl,rfl,_⟩,_,_⟩:=hv'
 exact⟨b,0,rfl,⟨hb,hg,by rw[hv];rfl⟩,hc⟩
section
variable {α:Type}{w w':World}{base:Nat}{e:TypeId}{sz:Nat}{E:World->(Nat->Prop)->α->List Value->Prop}{okp okq:Nat->Prop}{v:Value}{xs ys:List α}
theorem OwnD.nil:OwnD w base e sz E okp (.slice none 0 0) ([]:List α):=OwnP.nil
theorem OwnD.grow (h:OwnD w base e sz E okp v xs)(hE:Emon E)(hb:Below w.heap.size w w'):OwnD w' base e sz E okp v xs:=
 (OwnP.grow h hb).imp fun _ _ _ hx=>hE.up (fun b hb'=>hb.block b hb'.2.1) (fun _ hb'=>⟨hb'.1,Nat.lt_of_lt_of_le hb'.2.1 hb.size,hb'.2.2⟩) hx
theorem OwnD.drew (h:OwnD w base e sz E okp v xs)(hE:Emon E):OwnD w.drew base e sz E okp v xs:=OwnP.imp (OwnP.drew h) fun _ _ _ hx=>hE.up (w:=w) (w':=w.drew) (ok:=fun b=>okp b/\b<w.heap.size/\v.ownBlock≠some b) (fun _ _=>rfl) (fun _ h=>h) hx
theorem OwnD.sl (h:OwnD w base e sz E okp v xs)(hE:Emon E)(hl:xs.length<=Big):SlP w w.heap.size sz (E w (fun b=>okp b/\b<w.heap.size)) v xs:=
 OwnP.sl (OwnP.imp h fun _ _ _ hx=>hE.up (fun _ _=>rfl) (fun _ hb=>⟨hb.1,hb.2.1⟩) hx) hl
theorem OwnD.mono {base':Nat}(h:OwnD w base e sz E okp v xs)(hb:base'<=base):OwnD w base' e sz E okp v xs:=OwnP.mono h hb
theorem OwnD.weak (h:OwnD w base e sz E okp v xs)(hE:Emon E)(ho:∀ b,okp b->okq b):OwnD w base e sz E okq v xs:=OwnP.imp h fun _ _ _ hx=>hE.up (fun _ _=>rfl) (fun _ hb=>⟨ho _ hb.1,hb.2⟩) hx
theorem OwnD.lt (h:OwnD w base e sz E okp v xs):∀ g,v.ownBlock=some g->base<=g/\g<w.heap.size:=OwnP.lt h
end
theorem Za {α:Type}{P:Program}{ops:Array Oper}{rest:List Oper}{o:Oper}{a:Act}{Q:Exit->Act->World->Prop}{w:World}(hg:o.guard=none)(s x:Operand)(t:TypeId)
  (hop:o.op=.call { callee:=.builtin .append,args:=#[s,x],argTypes:=#[t,t] }){e:TypeId}{sz bytes base:Nat}{E:World->(Nat->Prop)->α->List Value->Prop}{okp:Nat->Prop}{v sv:Value}{xs ys:List α}(hE:Emon E) (hi:Qr P t e sz bytes) (hsz:0<sz) (hby:bytes<=1000)
  (hs:a.eval s=v) (hown:OwnD w base e sz E okp v xs) (hx:a.eval x=sv) (hys:SlP w w.heap.size sz (E w (fun b=>okp b/\b<w.heap.size/\v.ownBlock≠some b)) sv ys) (hl:xs.length+ys.length<=Few) (hbase:base<=w.heap.size)
  (h:∀ v' w',OwnD w' base e sz E okp v' (xs++ys)->Below base w w'->w.grownBy w' v.ownBlock->(v'.ownBlock=v.ownBlock∨v'.ownBlock=some w.heap.size)->wpList P ops Q rest (a.put o.dst v') w'):wpList P ops Q (o :: rest) a w:=by
 unfold Few at hl
 refine XY hg s x t hop hi hsz (fun _ _ h=>hE.one h) hs hown hx hys (Nat.le_trans (Nat.mul_le_mul hl hby) (by omega)) (by unfold Big;omega) hbase fun v' w' h1 h2 h3=>h v' w' ?_ ((Below.refl base w).grown h2 hbase fun g hg=>(OwnP.lt hown g hg).1) h2 h3
 refine h1.imp fun y _ cs hy=>hE.up (fun b hb=>h2.block b hb.2.1 (Ne.symm hb.2.2)) (fun b hb=>⟨hb.1,Nat.lt_of_lt_of_le hb.2.1 h2.size,?_⟩) hy
 rcases h3 with h3|h3
 ·rw[h3];exact hb.2.2
 ·rw[h3];intro e;cases e;exact absurd hb.2.1 (Nat.lt_irrefl _)
theorem YA {α:Type}{P:Program}{ops:Array Oper}{o:Oper}{a:Act}{K:Act->World->Prop}{Q:Exit->Act->World->Prop}{F:Prop}{w:World}(hg:o.guard=none)(s x:Operand)(t:TypeId)
  (hop:o.op=.call { callee:=.builtin .append,args:=#[s,x],argTypes:=#[t,t] }){e:TypeId}{sz bytes base:Nat}{E:World->(Nat->Prop)->α->List Value->Prop}{okp:Nat->Prop}{v sv:Value}{xs ys:List α}(hE:Emon E) (hi:Qr P t e sz bytes) (hsz:0<sz) (hby:bytes<=1000)
  (hs:a.eval s=v) (hown:OwnD w base e sz E okp v xs) (hx:a.eval x=sv) (hys:SlP w w.heap.size sz (E w (fun b=>okp b/\b<w.heap.size/\v.ownBlock≠some b)) sv ys) (hl:xs.length+ys.length<=Few) (hbase:base<=w.heap.size)
  (h:∀ v' w',OwnD w' base e sz E okp v' (xs++ys)->Below base w w'->w.grownBy w' v.ownBlock->(v'.ownBlock=v.ownBlock∨v'.ownBlock=some w.heap.size)->K (a.put o.dst v') w') :
  if Region.wanted o (yielded ops a.tmps)=true then Oper.wp P o a w K Q else F:=by
 have hw:Region.wanted o (yielded ops a.tmps)=true:=by simp[Region.wanted,hg]
 rw[if_pos hw]
 unfold Few at hl
 obtain⟨v',w',r1,h1,h2,h3⟩:=Vj (P:=P) (ty:=o.type) hi hsz (fun _ _ h=>hE.one h) hown hys (Nat.le_trans (Nat.mul_le_mul hl hby) (by omega)) (by unfold Big;omega) hbase
 unfold Oper.wp execOp
 simp only[hop,resolve,invoke,builtin,Sem.run_bind,Sem.run_pure,Result.andThen_ok,List.map_toArray,List.map_cons,List.map_nil,hs,hx,r1]
 refine h v' w' ?_ ((Below.refl base w).grown h2 hbase fun g hg=>(OwnP.lt hown g hg).1) h2 h3
 refine h1.imp fun y _ cs hy=>hE.up (fun b hb=>h2.block b hb.2.1 (Ne.symm hb.2.2)) (fun b hb=>⟨hb.1,Nat.lt_of_lt_of_le hb.2.1 h2.size,?_⟩) hy
 rcases h3 with h3|h3
 ·rw[h3];exact hb.2.2
 ·rw[h3];intro e;cases e;exact absurd hb.2.1 (Nat.lt_irrefl _)
def RetD {α:Type}(w:World)(t:TypeId)(sz:Nat)(E:World->(Nat->Prop)->α->List Value->Prop)(okp:Nat->Prop)(xs:List α)(e:Ending)(w':World):Prop:=
 ∃ v,e=.returned v/\OwnD w' w.heap.size t sz E (fun b=>okp b∨w.heap.size<=b) v xs/\Below w.heap.size w w'
structure Opr where
 path:List ByteArray
 act:Int
 s:ByteArray
 n:Int
 deriving DecidableEq,Inhabited
structure Vw where
 kind:Int
 on:Bool
 n:Int
 l:List ByteArray
 deriving DecidableEq,Inhabited
structure Opr.Ok (o:Opr):Prop where
 act:I64 o.act
 n:I64 o.n
 s:o.s.size<=Big
def OpE (w:World)(B:Nat)(o:Opr)(cs:List Value):Prop:=∃ vp,cs=[vp,.int .i64 o.act,.string o.s,.int .i64 o.n]/\SlP w B 1 StE vp o.path/\o.Ok
theorem OpE.up {w w':World}{B B':Nat}{o:Opr}{cs:List Value}(hb:Below B w w')(hB:B<=B')(h:OpE w B o cs):OpE w' B' o cs:=by
 obtain⟨vp,h1,h2,h3⟩:=h
 exact⟨vp,h1,h2.imp hb hB fun _ _ _ h=>h,h3⟩
def Dt.right (d:Dt):Bool:=decide (0<=d.dc/\d.dc<4/\1<=d.n/\d.n<=1099511627776)
def Dt.lt (a b:Dt):Bool:=if a.dc≠b.dc then decide (a.dc<b.dc) else decide (a.n<b.n)
def keyB (s:ByteArray):Bool:=decide (1<=s.size/\s.size<=30)
def En.right (e:En):Bool:=decide (e.dot.right=true/\e.s.size<=30/\e.v<=1099511627776/\-1099511627776<=e.v)
def numB (n:Int):Bool:=decide (1<=n/\n<=1099511627776)
def cmpI (a b:Int):Int:=if a<b then -1 else if b<a then 1 else 0
def orI (a b:Int):Int:=if a≠0 then a else b
def Dt.cmp (a b:Dt):Int:=orI (cmpI a.dc b.dc) (cmpI a.n b.n)
def empB (ne nk:Nat):Bool:=decide (ne=0/\nk=0)
def Tr.empty:Tr->Bool|.mk es ks=>es.isEmpty&&ks.isEmpty
theorem Zq (d:Dt)(w:World):Calls Tryz.prog 66 #[.agg #[.int .i64 d.dc,.int .i64 d.n]] w fun e w'=>e=.returned (.bool d.right)/\Below w.heap.size w w':=by
 go_enter Tryz.func66,Tryz.ntmps66
 go_wp2_with fail
 all_goals (go_ret;refine⟨Qf ?_,by go_grown⟩;rw[Bool.eq_iff_iff];simp[Dt.right]at *;try omega)
theorem QB (d:Dt)(w:World):Calls Tryz.prog 64 #[.agg #[.int .i64 d.dc,.int .i64 d.n]] w fun e w'=>e=.returned (.bool d.right)/\Below w.heap.size w w':=by
 go_enter Tryz.func64,Tryz.ntmps64
 go_wp2_with fail
 all_goals (go_ret;refine⟨Qf ?_,by go_grown⟩;rw[Bool.eq_iff_iff];simp[Dt.right]at *;try omega)
theorem QD (a b:Dt)(w:World):Calls Tryz.prog 80 #[.agg #[.int .i64 a.dc,.int .i64 a.n],.agg #[.int .i64 b.dc,.int .i64 b.n]] w fun e w'=>e=.returned (.bool (a.lt b))/\Below w.heap.size w w':=by
 go_enter Tryz.func80,Tryz.ntmps80
 go_wp2_with fail
 all_goals (go_ret;refine⟨Qf ?_,by go_grown⟩;rw[Bool.eq_iff_iff];simp[Dt.lt]at *;try simp[*])
theorem QU (s:ByteArray)(w:World):Calls Tryz.prog 132 #[.string s] w fun e w'=>e=.returned (.bool (keyB s))/\Below w.heap.size w w':=by
 go_enter Tryz.func132,Tryz.ntmps132
 go_wp2_with fail
 all_goals (go_ret;refine⟨Qf ?_,by go_grown⟩;rw[Bool.eq_iff_iff];simp[keyB]at *;try omega)
theorem Zz (s:ByteArray)(w:World):Calls Tryz.prog 161 #[.string s] w fun e w'=>e=.returned (.bool (keyB s))/\Below w.heap.size w w':=by
 go_enter Tryz.func161,Tryz.ntmps161
 go_wp2_with fail
 all_goals (go_ret;refine⟨Qf ?_,by go_grown⟩;rw[Bool.eq_iff_iff];simp[keyB]at *;try omega)
theorem Yo (n:Int)(w:World):Calls Tryz.prog 187 #[.int .i64 n] w fun e w'=>e=.returned (.bool (numB n))/\w=w':=by
 go_enter Tryz.func187,Tryz.ntmps187
 go_wp2_with fail
 all_goals (go_ret;refine⟨Qf ?_,rfl⟩;rw[Bool.eq_iff_iff];simp[numB]at *;try omega)
theorem ZX (x:En)(w:World):Calls Tryz.prog 131 #[.agg #[.int .i64 x.dc,.int .i64 x.n,.string x.s,.int .i64 x.v]] w fun e w'=>e=.returned (.bool x.right)/\Below w.heap.size w w':=by
 go_enter Tryz.func131,Tryz.ntmps131
 cases hd:x.dot.right
 all_goals
  go_wp2_with (go_at_call 66;refine (Zq x.dot _).mono ?_;rw[hd];rintro e w1 ⟨rfl,hb1⟩;have hsz:=hb1.size;obtain⟨hc1,_⟩:=bcell hb1)
  all_goals (go_ret;refine⟨Qf ?_,((Below.refl _ w).alloc (Nat.le_refl _) _).trans (hb1.mono (by simp))⟩;rw[Bool.eq_iff_iff];simp[En.right,hd]at *;try omega)
theorem QE (ne nk:Nat)(A B:Option Addr)(c d:Nat)(w:World):Calls Tryz.prog 147 #[.agg #[.slice A ne c,.slice B nk d]] w fun e w'=>e=.returned (.bool (empB ne nk))/\Below w.heap.size w w':=by
 go_enter Tryz.func147,Tryz.ntmps147
 go_wp2_with fail
 all_goals (go_ret;refine⟨Qf ?_,by go_grown⟩;rw[Bool.eq_iff_iff];simp[empB]at *;try omega)
theorem Xi (a b:Int)(w:World):Calls Tryz.prog 185 #[.int .i64 a,.int .i64 b] w fun e w'=>e=.returned (.int .i64 (cmpI a b))/\w=w':=by
 go_enter Tryz.func185,Tryz.ntmps185
 go_wp2
 all_goals (go_ret;refine⟨Qn ?_,rfl⟩;simp[cmpI]at *;try omega)
theorem qU7 (a b:Int)(w:World):Calls Tryz.prog 206 #[.int .i64 a,.int .i64 b] w fun e w'=>e=.returned (.int .i64 (cmpI a b))/\w=w':=by
 go_enter Tryz.func206,Tryz.ntmps206
 go_wp2
 all_goals (go_ret;refine⟨Qn ?_,rfl⟩;simp[cmpI]at *;try omega)
theorem qKt (a b:Int)(g:Nat)(w:World)(h0:w.cell? ⟨g,0,none⟩=some (.int .i64 a))(h1:w.cell? ⟨g,1,none⟩=some (.int .i64 b)) :
  Calls Tryz.prog 205 #[.slice (some ⟨g,0,none⟩) 2 2] w fun e w'=>e=.returned (.int .i64 (orI a b))/\w=w':=by
 by_cases ha:a=0
 ·subst ha
  by_cases hb:b=0
  ·subst hb
   go_enter Tryz.func205,Tryz.ntmps205
   go_wp2_with fail
   go_rounds 3
   go_ret
   exact⟨rfl,rfl⟩
  ·have hb':(b==0)=false:=by simpa using hb
   have hb2:(b != 0)=true:=by simpa using hb
   go_enter Tryz.func205,Tryz.ntmps205
   go_wp2_with fail
   go_rounds 3
   go_ret
   exact⟨rfl,rfl⟩
 ·have hb':(a==0)=false:=by simpa using ha
  have hb2:(a != 0)=true:=by simpa using ha
  go_enter Tryz.func205,Tryz.ntmps205
  go_wp2_with fail
  go_rounds 3
  go_ret
  exact⟨Qn (by simp[orI,ha]),rfl⟩
theorem QP (a b:Dt)(w:World):Calls Tryz.prog 176 #[.agg #[.int .i64 a.dc,.int .i64 a.n],.agg #[.int .i64 b.dc,.int .i64 b.n]] w fun e w'=>e=.returned (.int .i64 (a.cmp b))/\Below w.heap.size w w':=by
 go_enter Tryz.func176,Tryz.ntmps176
 go_wp2_with fail
 go_region_held3 (fun w'=>w'.cell? ⟨w.heap.size,0,none⟩=some (.int .i64 a.dc)/\w'.cell? ⟨w.heap.size,1,none⟩=some (.int .i64 a.n)/\w'.cell? ⟨w.heap.size+1,0,none⟩=some (.int .i64 b.dc)/\w'.cell? ⟨w.heap.size+1,1,none⟩=some (.int .i64 b.n)) (go_keep)
  (first|(go_at_call 206;refine (qU7 _ _ _).mono ?_;rintro e w' ⟨rfl,rfl⟩)|(go_at_call 185;refine (Xi _ _ _).mono ?_;rintro e w' ⟨rfl,rfl⟩)|(go_at_call 205;refine (qKt (cmpI a.dc b.dc) (cmpI a.n b.n) _ _ (by rw[World.cell?_drew,World.cell?_alloc_at _ _ _ _ (by simp)];rfl) (by rw[World.cell?_drew,World.cell?_alloc_at _ _ _ _ (by simp)];rfl)).mono ?_;rintro e w' ⟨rfl,rfl⟩))
 all_goals (go_wp2_with fail;go_ret;exact⟨Qn rfl,by go_grown⟩)
def okP:Option Dt->Dt->Bool
 |none,_=>true
 |some q,d=>q.lt d
def entsB:Option Dt->List En->Bool
 |_,[]=>true
 |p,e :: es=>e.right&&okP p e.dot&&entsB (some e.dot) es
theorem ZE (p:Option Dt)(e:En)(es:List En):entsB p (e :: es)=(e.right&&okP p e.dot&&entsB (some e.dot) es):=by cases p<;>rfl
def prevD (es:List En)(k:Nat):Option Dt:=if k=0 then none else es[k-1]?.map En.dot
theorem KG {es:List En}{k:Nat}{e:En}(h:es[k]?=some e):prevD es (k+1)=some e.dot:=by simp[prevD,h]
theorem qKu (a b:Dt):decide (0<=a.cmp b) = !(a.lt b):=by
 rw[Bool.eq_iff_iff]
 simp only[Dt.cmp,orI,cmpI,Dt.lt]
 by_cases h1:a.dc=b.dc
 ·simp only[h1];by_cases h3:a.n<b.n<;>by_cases h4:b.n<a.n<;>simp[h3,h4]<;>omega
 ·by_cases h2:a.dc<b.dc
  ·simp[h1,h2]
  ·have:b.dc<a.dc:=by omega
   simp[h1,h2,this]
theorem VN (es:List En)(ve:Value)(w:World)(h:SlP w w.heap.size 4 EnE ve es) :
  Calls Tryz.prog 160 #[ve] w fun e w'=>e=.returned (.bool (entsB none es))/\Below w.heap.size w w':=by
 obtain⟨A,n,rfl,b1,b2,b3⟩:=h
 unfold Big at b2
 go_enter Tryz.func160,Tryz.ntmps160
 go_wp2_with fail
 go_loopw [7] (fun i wr=>∃ k:Nat,k<=es.length/\i=.int .i64 k/\Hid (entsB (prevD es k) (es.drop k)=entsB none es)/\Below w.heap.size w wr) (fun i _=>es.length-(intOf i).toNat)
 case atStart=>exact⟨0,Nat.zero_le _,rfl,rfl,Below.refl _ _⟩
 case round=>
  obtain⟨k,hk,rfl,hrel,hb⟩:=hrel
  have hsz:=hb.size
  by_cases hlt:k<es.length
  ·obtain⟨x,hx⟩:∃ x,es[k]?=some x:=⟨_,List.getElem?_eq_getElem hlt⟩
   obtain⟨b,off,rfl,hbB,hc⟩:=b3 (by rintro rfl;simp at hlt)
   obtain⟨cs,⟨rfl,hok⟩,_,hu⟩:=hc k _ hx
   have e0:wr.cell? ⟨b,off+k*4+0,none⟩=some (.int .i64 x.dc):=(hb.cell hbB).trans (hu 0 _ rfl)
   have e1:wr.cell? ⟨b,off+k*4+1,none⟩=some (.int .i64 x.n):=(hb.cell hbB).trans (hu 1 _ rfl)
   have e2:wr.cell? ⟨b,off+k*4+2,none⟩=some (.string x.s):=(hb.cell hbB).trans (hu 2 _ rfl)
   have e3:wr.cell? ⟨b,off+k*4+3,none⟩=some (.int .i64 x.v):=(hb.cell hbB).trans (hu 3 _ rfl)
   simp only[Nat.add_zero]at e0
   clear hu
   go_wp2_with fail
   have f0:∀ p:Far (wr.heap.size+1) (wr.alloc (.cells #[.int .i64 x.dc,.int .i64 x.n,.string x.s,.int .i64 x.v] 80)),p.w'.cell? ⟨wr.heap.size,0,none⟩=some (.int .i64 x.dc):=Qh (by simp) (by omega)
   have f1:∀ p:Far (wr.heap.size+1) (wr.alloc (.cells #[.int .i64 x.dc,.int .i64 x.n,.string x.s,.int .i64 x.v] 80)),p.w'.cell? ⟨wr.heap.size,1,none⟩=some (.int .i64 x.n):=Qh (by simp) (by omega)
   have f2:∀ p:Far (wr.heap.size+1) (wr.alloc (.cells #[.int .i64 x.dc,.int .i64 x.n,.string x.s,.int .i64 x.v] 80)),p.w'.cell? ⟨wr.heap.size,2,none⟩=some (.string x.s):=Qh (by simp) (by omega)
   have f3:∀ p:Far (wr.heap.size+1) (wr.alloc (.cells #[.int .i64 x.dc,.int .i64 x.n,.string x.s,.int .i64 x.v] 80)),p.w'.cell? ⟨wr.heap.size,3,none⟩=some (.int .i64 x.v):=Qh (by simp) (by omega)
   have hrd:=QJ hx
   have hprev:∃ y:En,(0<k->es[k-1]?=some y/\(∀ p:Far (wr.heap.size+1) (wr.alloc (.cells #[.int .i64 x.dc,.int .i64 x.n,.string x.s,.int .i64 x.v] 80)),p.w'.cell? ⟨b,off+(k-1)*4,none⟩=some (.int .i64 y.dc)/\p.w'.cell? ⟨b,off+(k-1)*4+1,none⟩=some (.int .i64 y.n))):=by
    by_cases h0:0<k
    ·obtain⟨y,hy⟩:∃ y,es[k-1]?=some y:=⟨_,List.getElem?_eq_getElem (by omega)⟩
     obtain⟨cs,⟨rfl,_⟩,_,hu⟩:=hc (k-1) _ hy
     refine⟨y,fun _=>⟨hy,fun p=>⟨Qh ?_ (by omega) p,Qh ?_ (by omega) p⟩⟩⟩
     ·rw[World.cell?_alloc_lt _ _ _ (by exact Nat.lt_of_lt_of_le hbB hsz)];exact (hb.cell hbB).trans (hu 0 _ rfl)
     ·rw[World.cell?_alloc_lt _ _ _ (by exact Nat.lt_of_lt_of_le hbB hsz)];exact (hb.cell hbB).trans (hu 1 _ rfl)
    ·exact⟨x,fun h=>absurd h h0⟩
   obtain⟨y,hprev⟩:=hprev
   have HR:Hid (entsB none es=(x.right&&okP (prevD es k) x.dot&&entsB (prevD es (k+1)) (es.drop (k+1)))):=by
    have:=hrel.out
    rw[hrd,ZE]at this
    rw[KG hx];exact this.symm
   clear hrd hc hrel b3
   have HX:Hid (es[k]?=some x):=hx
   clear hx
   rcases h1:x.dot.right
   ·refine Qc (wr.heap.size+1) (by kernel_rfl) (by kernel_rfl) ?_
    repeat (go_big_quiet_step (first|(go_at_call 64;exact Calls.far_of (by simp) (QB x.dot _))|(go_at_call 176;exact Calls.far_of (by simp) (QP y.dot x.dot _))))
    refine wpQuiet_nil ?_
    intro wq hbq
    have hbw:Below w.heap.size w wq:=(hb.alloc hsz _).trans (hbq.mono (by omega))
    go_wp2_with fail
    go_ret
    refine⟨Qf ?_,hbw⟩
    rw[HR.out]
    rw[show x.right=false by simp[En.right,h1]];rfl
   rcases t2:decide ((30:Int)<(x.s.size:Int))
   case true=>
    refine Qc (wr.heap.size+1) (by kernel_rfl) (by kernel_rfl) ?_
    repeat (go_big_quiet_step (first|(go_at_call 64;exact Calls.far_of (by simp) (QB x.dot _))|(go_at_call 176;exact Calls.far_of (by simp) (QP y.dot x.dot _))))
    refine wpQuiet_nil ?_
    intro wq hbq
    have hbw:Below w.heap.size w wq:=(hb.alloc hsz _).trans (hbq.mono (by omega))
    go_wp2_with fail
    go_ret
    refine⟨Qf ?_,hbw⟩
    rw[HR.out]
    rw[show x.right=false by (have:=of_decide_eq_true t2;simp[En.right];intros;omega)];rfl
   rcases t3:decide ((1099511627776:Int)<x.v)
   case true=>
    refine Qc (wr.heap.size+1) (by kernel_rfl) (by kernel_rfl) ?_
    repeat (go_big_quiet_step (first|(go_at_call 64;exact Calls.far_of (by simp) (QB x.dot _))|(go_at_call 176;exact Calls.far_of (by simp) (QP y.dot x.dot _))))
    refine wpQuiet_nil ?_
    intro wq hbq
    have hbw:Below w.heap.size w wq:=(hb.alloc hsz _).trans (hbq.mono (by omega))
    go_wp2_with fail
    go_ret
    refine⟨Qf ?_,hbw⟩
    rw[HR.out]
    rw[show x.right=false by (have:=of_decide_eq_true t3;simp[En.right];intros;omega)];rfl
   rcases t4:decide (x.v<(-1099511627776:Int))
   case true=>
    refine Qc (wr.heap.size+1) (by kernel_rfl) (by kernel_rfl) ?_
    repeat (go_big_quiet_step (first|(go_at_call 64;exact Calls.far_of (by simp) (QB x.dot _))|(go_at_call 176;exact Calls.far_of (by simp) (QP y.dot x.dot _))))
    refine wpQuiet_nil ?_
    intro wq hbq
    have hbw:Below w.heap.size w wq:=(hb.alloc hsz _).trans (hbq.mono (by omega))
    go_wp2_with fail
    go_ret
    refine⟨Qf ?_,hbw⟩
    rw[HR.out]
    rw[show x.right=false by (have:=of_decide_eq_true t4;simp[En.right];intros;omega)];rfl
   have hxr:x.right=true:=by
    have a2:=of_decide_eq_false t2;have a3:=of_decide_eq_false t3;have a4:=of_decide_eq_false t4
    simp[En.right,h1];omega
   rcases Nat.eq_zero_or_pos k with h0|h0
   ·have t0:decide ((0:Int)<(k:Int))=false:=by simp;omega
    have t0':decide (0<k)=false:=by simp;omega
    have H0:=hid h0
    clear h0 hprev
    refine Qc (wr.heap.size+1) (by kernel_rfl) (by kernel_rfl) ?_
    repeat (go_big_quiet_step (first|(go_at_call 64;exact Calls.far_of (by simp) (QB x.dot _))|(go_at_call 176;exact Calls.far_of (by simp) (QP y.dot x.dot _))))
    refine wpQuiet_nil ?_
    intro wq hbq
    have hbw:Below w.heap.size w wq:=(hb.alloc hsz _).trans (hbq.mono (by omega))
    go_wp2_with fail
    go_roundw
    case rel=>
     refine⟨k+1,by omega,by go_num,?_,hbw⟩
     show _=_
     rw[HR.out,hxr]
     rw[show prevD es k=none by (rw[H0.out];rfl)];simp[okP]
    case measure=>simp[intOf];omega
   obtain⟨hy,hq⟩:=hprev h0
   have q0:=fun p=>(hq p).1
   have q1:=fun p=>(hq p).2
   clear hq hprev
   have hyp:Hid (prevD es k=some y.dot):=by unfold Hid prevD;rw[if_neg (by omega),hy];rfl
   clear hy
   rcases t5:decide (0<=y.dot.cmp x.dot)
   ·refine Qc (wr.heap.size+1) (by kernel_rfl) (by kernel_rfl) ?_
    repeat (go_big_quiet_step (first|(go_at_call 64;exact Calls.far_of (by simp) (QB x.dot _))|(go_at_call 176;exact Calls.far_of (by simp) (QP y.dot x.dot _))))
    refine wpQuiet_nil ?_
    intro wq hbq
    have hbw:Below w.heap.size w wq:=(hb.alloc hsz _).trans (hbq.mono (by omega))
    go_wp2_with fail
    go_roundw
    case rel=>
     refine⟨k+1,by omega,by go_num,?_,hbw⟩
     show _=_
     rw[HR.out,hxr]
     rw[qKu]at t5;rw[hyp.out];simp at t5;simp[okP,t5]
    case measure=>simp[intOf];omega
   ·refine Qc (wr.heap.size+1) (by kernel_rfl) (by kernel_rfl) ?_
    repeat (go_big_quiet_step (first|(go_at_call 64;exact Calls.far_of (by simp) (QB x.dot _))|(go_at_call 176;exact Calls.far_of (by simp) (QP y.dot x.dot _))))
    refine wpQuiet_nil ?_
    intro wq hbq
    have hbw:Below w.heap.size w wq:=(hb.alloc hsz _).trans (hbq.mono (by omega))
    go_wp2_with fail
    go_ret
    refine⟨Qf ?_,hbw⟩
    rw[HR.out]
    rw[qKu]at t5;rw[hyp.out];simp at t5;simp[okP,t5]
  ·obtain rfl:k=es.length:=by omega
   have hr:=hrel.out
   go_wp2_with fail
   go_ret
   exact⟨Qf (by rw[←hr];simp[entsB]),hb⟩
def okK:Option ByteArray->ByteArray->Bool
 |none,_=>true
 |some q,k=>Op.bytesLess q.toList k.toList
mutual
def Tr.right:Tr->Int->Bool
 |.mk es ks,deep=>decide (1<=deep)&&entsB none es&&Tr.rightL none ks deep
def Tr.rightL:Option ByteArray->List (ByteArray×Tr)->Int->Bool
 |_,[],_=>true
 |p,(k,t) :: ks,deep=>keyB k&&okK p k&&!t.empty&&t.right (deep-1)&&Tr.rightL (some k) ks deep
end
theorem QX (p:Option ByteArray)(k:ByteArray)(t:Tr)(ks:List Kd)(deep:Int):Tr.rightL p ((k,t) :: ks) deep=(keyB k&&okK p k&&!t.empty&&t.right (deep-1)&&Tr.rightL (some k) ks deep):=by
 cases p<;>rw[Tr.rightL]
def prevK (ks:List Kd)(k:Nat):Option ByteArray:=if k=0 then none else ks[k-1]?.map (·.1)
theorem KH {ks:List Kd}{k:Nat}{x:Kd}(h:ks[k]?=some x):prevK ks (k+1)=some x.1:=by simp[prevK,h]
theorem qJf (t:Tr):∀ (deep:Int) (w:World) (ve vk:Value),t.rd w w.heap.size ve vk->0<=deep->deep<=1000 ->
  Calls Tryz.prog 118 #[.agg #[ve,vk],.int .i64 deep] w fun e w'=>e=.returned (.bool (t.right deep))/\Below w.heap.size w w':=by
 induction t using Tr.ind with
 |h es ks ih=>
 intro deep w ve vk h h0 h1
 rw[QA]at h
 obtain⟨hes,⟨A,m,rfl,c1,c2,c3⟩⟩:=h
 unfold Big at c2
 by_cases hd:deep<1
 ·go_enter Tryz.func118,Tryz.ntmps118
  go_wp2_with fail
  go_ret
  exact⟨Qf (by rw[Tr.right];simp;omega),by go_grown⟩
 have hd':decide (deep<1)=false:=by simpa using hd
 rcases hE:entsB none es
 ·go_enter Tryz.func118,Tryz.ntmps118
  go_wp2_with (go_at_call 160;refine (VN es ve _ (hes.imp ((Below.refl _ w).alloc (Nat.le_refl _) _) (by simp) (fun _ _ _ h=>h))).mono ?_;rw[hE];rintro e w1 ⟨rfl,hb1⟩)
  go_ret
  exact⟨Qf (by rw[Tr.right,hE];simp),((Below.refl _ w).alloc (Nat.le_refl _) _).trans (hb1.mono (by simp))⟩
 go_enter Tryz.func118,Tryz.ntmps118
 go_wp2_with (go_at_call 160;refine (VN es ve _ (hes.imp ((Below.refl _ w).alloc (Nat.le_refl _) _) (by simp) (fun _ _ _ h=>h))).mono ?_;rw[hE];rintro e w1 ⟨rfl,hb1⟩;have hsz1:=hb1.size;obtain⟨hc1,_⟩:=bcell hb1)
 have hE:=hid hE
 simp only[World.size_alloc]at hb1 hsz1
 clear hc1
 go_loopw [18] (fun i wr=>∃ k:Nat,k<=ks.length/\i=.int .i64 k/\Hid (Tr.rightL (prevK ks k) (ks.drop k) deep=Tr.rightL none ks deep)/\Below (w.heap.size+1) (w.alloc (.cells #[ve,.slice A ks.length m] 25)) wr) (fun i _=>ks.length-(intOf i).toNat)
 case atStart=>exact⟨0,Nat.zero_le _,rfl,rfl,hb1⟩
 case round=>
  obtain⟨k,hk,rfl,hrel,hb⟩:=hrel
  clear hb1 hsz1
  have hsz:=hb.size
  simp only[World.size_alloc]at hsz
  by_cases hlt:k<ks.length
  ·obtain⟨⟨key,t⟩,hx⟩:∃ x,ks[k]?=some x:=⟨_,List.getElem?_eq_getElem hlt⟩
   obtain⟨b,off,rfl,hbB,hc⟩:=c3 (by rintro rfl;simp at hlt)
   obtain⟨cs,⟨ve',vk',rfl,hkb,hrd⟩,_,hu⟩:=hc k _ hx
   have hbo:∀ o,wr.cell? ⟨b,o,none⟩=w.cell? ⟨b,o,none⟩:=fun o=>(hb.cell (p:=⟨b,o,none⟩) (by simp;omega)).trans (World.cell?_alloc_lt _ _ _ hbB)
   have hmem:(key,t)∈ks:=List.mem_of_getElem? hx
   obtain⟨es',ks'⟩:=t
   have hrd0:=hrd
   rw[QA]at hrd
   obtain⟨⟨A1,n1,rfl,l1,_,_⟩,⟨A2,n2,rfl,l2,_,_⟩⟩:=hrd
   have e0:wr.cell? ⟨b,off+k*3,none⟩=some (.string key):=(hbo _).trans (hu 0 _ rfl)
   have e1:wr.cell? ⟨b,off+k*3+1,none⟩=some (.slice A1 es'.length n1):=(hbo _).trans (hu 1 _ rfl)
   have e2:wr.cell? ⟨b,off+k*3+2,none⟩=some (.slice A2 ks'.length n2):=(hbo _).trans (hu 2 _ rfl)
   have hB0:Below w.heap.size w wr:=((Below.refl _ w).alloc (Nat.le_refl _) _).trans (hb.mono (by omega))
   have HO:=hid hbo
   clear hu hbo
   go_wp2_with fail
   have hrd:Hid (∀ w',Below (wr.heap.size+1) (wr.alloc (.cells #[.string key,.slice A1 es'.length n1,.slice A2 ks'.length n2] 96)) w'->(Tr.mk es' ks').rd w' w'.heap.size (.slice A1 es'.length n1) (.slice A2 ks'.length n2)):=fun w' hb'=>by
    have h1:=hb'.size
    simp only[World.size_alloc]at h1
    exact Qi ((hB0.alloc (by omega) _).trans (hb'.mono (by omega))) (by omega) _ _ _ hrd0
   have f0:∀ p:Far (wr.heap.size+1) (wr.alloc (.cells #[.string key,.slice A1 es'.length n1,.slice A2 ks'.length n2] 96)),p.w'.cell? ⟨wr.heap.size,0,none⟩=some (.string key):=Qh (by simp) (by omega)
   have f1:∀ p:Far (wr.heap.size+1) (wr.alloc (.cells #[.string key,.slice A1 es'.length n1,.slice A2 ks'.length n2] 96)),p.w'.cell? ⟨wr.heap.size,1,none⟩=some (.slice A1 es'.length n1):=Qh (by simp) (by omega)
   have f2:∀ p:Far (wr.heap.size+1) (wr.alloc (.cells #[.string key,.slice A1 es'.length n1,.slice A2 ks'.length n2] 96)),p.w'.cell? ⟨wr.heap.size,2,none⟩=some (.slice A2 ks'.length n2):=Qh (by simp) (by omega)
   have g1:∀ p:Far (wr.heap.size+1) (wr.alloc (.cells #[.string key,.slice A1 es'.length n1,.slice A2 ks'.length n2] 96)),p.w'.cell? ⟨w.heap.size,1,none⟩=some (.slice (some ⟨b,off,none⟩) ks.length m):=Qh (by
    rw[World.cell?_alloc_lt _ _ _ (by exact hsz)];rw[hb.cell (p:=⟨w.heap.size,1,none⟩) (by simp)];simp) (by omega)
   have hprev:∃ q:ByteArray,(0<k->prevK ks k=some q/\(∀ p:Far (wr.heap.size+1) (wr.alloc (.cells #[.string key,.slice A1 es'.length n1,.slice A2 ks'.length n2] 96)),p.w'.cell? ⟨b,off+(k-1)*3,none⟩=some (.string q))):=by
    by_cases h0:0<k
    ·obtain⟨y,hy⟩:∃ y,ks[k-1]?=some y:=⟨_,List.getElem?_eq_getElem (by omega)⟩
     obtain⟨cs,⟨_,_,rfl,_⟩,_,hu⟩:=hc (k-1) _ hy
     refine⟨y.1,fun _=>⟨by rw[prevK,if_neg (by omega),hy];rfl,fun p=>Qh ?_ (by omega) p⟩⟩
     rw[World.cell?_alloc_lt _ _ _ (by show b<wr.heap.size;omega)];exact (HO.out _).trans (hu 0 _ rfl)
    ·exact⟨key,fun h=>absurd h h0⟩
   obtain⟨q,hprev⟩:=hprev
   have HR:Hid (Tr.rightL none ks deep=(keyB key&&okK (prevK ks k) key&&!(Tr.mk es' ks').empty&&(Tr.mk es' ks').right (deep-1)&&Tr.rightL (prevK ks (k+1)) (ks.drop (k+1)) deep)):=by
    have:=hrel.out
    rw[QJ hx,QX]at this
    rw[KH hx];exact this.symm
   have HX:Hid (ks[k]?=some (key,.mk es' ks')):=hx
   have hemp:(Tr.mk es' ks').empty=empB es'.length ks'.length:=by
    rw[Bool.eq_iff_iff];simp[Tr.empty,empB]
   have HM:=hid hemp
   clear hc hrel c3 hx e0 e1 e2 hrd0 hemp
   rcases h1:keyB key
   ·refine Qc (wr.heap.size+1) (by kernel_rfl) (by kernel_rfl) ?_
    repeat (go_big_quiet_step (first|(go_at_call 161;exact Calls.far_of (by simp) (Zz key _))|(go_at_call 147;exact Calls.far_of (by simp) (QE es'.length ks'.length _ _ _ _ _))|(go_at_call 118;exact Calls.far_all (by simp) (fun w' hb'=>(ih key (.mk es' ks') hmem (deep-1) w' _ _ (hrd.out w' hb') (by omega) (by omega))))))
    refine wpQuiet_nil ?_
    intro wq hbq
    have hbw:Below (w.heap.size+1) (w.alloc (.cells #[ve,.slice (some ⟨b,off,none⟩) ks.length m] 25)) wq:=(hb.alloc (by omega) _).trans (hbq.mono (by omega))
    go_wp2_with fail
    go_ret
    refine⟨Qf ?_,((Below.refl _ w).alloc (Nat.le_refl _) _).trans (hbw.mono (by omega))⟩
    rw[Tr.right,HR.out,hE.out]
    rw[h1];simp
   rcases Nat.eq_zero_or_pos k with h0|h0
   ·have t0:decide ((0:Int)<(k:Int))=false:=by simp;omega
    have t0':decide (0<k)=false:=by simp;omega
    have hpk:Hid (okK (prevK ks k) key=true):=by rw[show prevK ks k=none by (rw[h0];rfl)];rfl
    clear h0 hprev
    rcases h6:empB es'.length ks'.length
    case true=>
     refine Qc (wr.heap.size+1) (by kernel_rfl) (by kernel_rfl) ?_
     repeat (go_big_quiet_step (first|(go_at_call 161;exact Calls.far_of (by simp) (Zz key _))|(go_at_call 147;exact Calls.far_of (by simp) (QE es'.length ks'.length _ _ _ _ _))|(go_at_call 118;exact Calls.far_all (by simp) (fun w' hb'=>(ih key (.mk es' ks') hmem (deep-1) w' _ _ (hrd.out w' hb') (by omega) (by omega))))))
     refine wpQuiet_nil ?_
     intro wq hbq
     have hbw:Below (w.heap.size+1) (w.alloc (.cells #[ve,.slice (some ⟨b,off,none⟩) ks.length m] 25)) wq:=(hb.alloc (by omega) _).trans (hbq.mono (by omega))
     go_wp2_with fail
     go_ret
     refine⟨Qf ?_,((Below.refl _ w).alloc (Nat.le_refl _) _).trans (hbw.mono (by omega))⟩
     rw[Tr.right,HR.out,hE.out]
     rw[HM.out,h6];simp
    rcases h7:(Tr.mk es' ks').right (deep-1)
    ·refine Qc (wr.heap.size+1) (by kernel_rfl) (by kernel_rfl) ?_
     repeat (go_big_quiet_step (first|(go_at_call 161;exact Calls.far_of (by simp) (Zz key _))|(go_at_call 147;exact Calls.far_of (by simp) (QE es'.length ks'.length _ _ _ _ _))|(go_at_call 118;exact Calls.far_all (by simp) (fun w' hb'=>(ih key (.mk es' ks') hmem (deep-1) w' _ _ (hrd.out w' hb') (by omega) (by omega))))))
     refine wpQuiet_nil ?_
     intro wq hbq
     have hbw:Below (w.heap.size+1) (w.alloc (.cells #[ve,.slice (some ⟨b,off,none⟩) ks.length m] 25)) wq:=(hb.alloc (by omega) _).trans (hbq.mono (by omega))
     go_wp2_with fail
     go_ret
     refine⟨Qf ?_,((Below.refl _ w).alloc (Nat.le_refl _) _).trans (hbw.mono (by omega))⟩
     rw[Tr.right,HR.out,hE.out]
     rw[h7];simp
    ·refine Qc (wr.heap.size+1) (by kernel_rfl) (by kernel_rfl) ?_
     repeat (go_big_quiet_step (first|(go_at_call 161;exact Calls.far_of (by simp) (Zz key _))|(go_at_call 147;exact Calls.far_of (by simp) (QE es'.length ks'.length _ _ _ _ _))|(go_at_call 118;exact Calls.far_all (by simp) (fun w' hb'=>(ih key (.mk es' ks') hmem (deep-1) w' _ _ (hrd.out w' hb') (by omega) (by omega))))))
     refine wpQuiet_nil ?_
     intro wq hbq
     have hbw:Below (w.heap.size+1) (w.alloc (.cells #[ve,.slice (some ⟨b,off,none⟩) ks.length m] 25)) wq:=(hb.alloc (by omega) _).trans (hbq.mono (by omega))
     go_wp2_with fail
     go_roundw
     case rel=>
      refine⟨k+1,by omega,by go_num,?_,hbw⟩
      show _=_
      rw[HR.out,h1]
      rw[hpk.out,HM.out,h6,h7];simp
     case measure=>simp[intOf];omega
   ·obtain⟨hq,q0⟩:=hprev h0
    rcases t5:Op.bytesLess q.toList key.toList
    ·have hpk:Hid (okK (prevK ks k) key=false):=by rw[hq];exact t5
     clear hprev hq
     refine Qc (wr.heap.size+1) (by kernel_rfl) (by kernel_rfl) ?_
     repeat (go_big_quiet_step (first|(go_at_call 161;exact Calls.far_of (by simp) (Zz key _))|(go_at_call 147;exact Calls.far_of (by simp) (QE es'.length ks'.length _ _ _ _ _))|(go_at_call 118;exact Calls.far_all (by simp) (fun w' hb'=>(ih key (.mk es' ks') hmem (deep-1) w' _ _ (hrd.out w' hb') (by omega) (by omega))))))
     refine wpQuiet_nil ?_
     intro wq hbq
     have hbw:Below (w.heap.size+1) (w.alloc (.cells #[ve,.slice (some ⟨b,off,none⟩) ks.length m] 25)) wq:=(hb.alloc (by omega) _).trans (hbq.mono (by omega))
     go_wp2_with fail
     go_ret
     refine⟨Qf ?_,((Below.refl _ w).alloc (Nat.le_refl _) _).trans (hbw.mono (by omega))⟩
     rw[Tr.right,HR.out,hE.out]
     rw[h1,hpk.out];simp
    ·have hpk:Hid (okK (prevK ks k) key=true):=by rw[hq];exact t5
     clear hprev hq
     rcases h6:empB es'.length ks'.length
     case true=>
      refine Qc (wr.heap.size+1) (by kernel_rfl) (by kernel_rfl) ?_
      repeat (go_big_quiet_step (first|(go_at_call 161;exact Calls.far_of (by simp) (Zz key _))|(go_at_call 147;exact Calls.far_of (by simp) (QE es'.length ks'.length _ _ _ _ _))|(go_at_call 118;exact Calls.far_all (by simp) (fun w' hb'=>(ih key (.mk es' ks') hmem (deep-1) w' _ _ (hrd.out w' hb') (by omega) (by omega))))))
      refine wpQuiet_nil ?_
      intro wq hbq
      have hbw:Below (w.heap.size+1) (w.alloc (.cells #[ve,.slice (some ⟨b,off,none⟩) ks.length m] 25)) wq:=(hb.alloc (by omega) _).trans (hbq.mono (by omega))
      go_wp2_with fail
      go_ret
      refine⟨Qf ?_,((Below.refl _ w).alloc (Nat.le_refl _) _).trans (hbw.mono (by omega))⟩
      rw[Tr.right,HR.out,hE.out]
      rw[HM.out,h6];simp
     rcases h7:(Tr.mk es' ks').right (deep-1)
     ·refine Qc (wr.heap.size+1) (by kernel_rfl) (by kernel_rfl) ?_
      repeat (go_big_quiet_step (first|(go_at_call 161;exact Calls.far_of (by simp) (Zz key _))|(go_at_call 147;exact Calls.far_of (by simp) (QE es'.length ks'.length _ _ _ _ _))|(go_at_call 118;exact Calls.far_all (by simp) (fun w' hb'=>(ih key (.mk es' ks') hmem (deep-1) w' _ _ (hrd.out w' hb') (by omega) (by omega))))))
      refine wpQuiet_nil ?_
      intro wq hbq
      have hbw:Below (w.heap.size+1) (w.alloc (.cells #[ve,.slice (some ⟨b,off,none⟩) ks.length m] 25)) wq:=(hb.alloc (by omega) _).trans (hbq.mono (by omega))
      go_wp2_with fail
      go_ret
      refine⟨Qf ?_,((Below.refl _ w).alloc (Nat.le_refl _) _).trans (hbw.mono (by omega))⟩
      rw[Tr.right,HR.out,hE.out]
      rw[h7];simp
     ·refine Qc (wr.heap.size+1) (by kernel_rfl) (by kernel_rfl) ?_
      repeat (go_big_quiet_step (first|(go_at_call 161;exact Calls.far_of (by simp) (Zz key _))|(go_at_call 147;exact Calls.far_of (by simp) (QE es'.length ks'.length _ _ _ _ _))|(go_at_call 118;exact Calls.far_all (by simp) (fun w' hb'=>(ih key (.mk es' ks') hmem (deep-1) w' _ _ (hrd.out w' hb') (by omega) (by omega))))))
      refine wpQuiet_nil ?_
      intro wq hbq
      have hbw:Below (w.heap.size+1) (w.alloc (.cells #[ve,.slice (some ⟨b,off,none⟩) ks.length m] 25)) wq:=(hb.alloc (by omega) _).trans (hbq.mono (by omega))
      go_wp2_with fail
      go_roundw
      case rel=>
       refine⟨k+1,by omega,by go_num,?_,hbw⟩
       show _=_
       rw[HR.out,h1]
       rw[hpk.out,HM.out,h6,h7];simp
      case measure=>simp[intOf];omega
  ·obtain rfl:k=ks.length:=by omega
   have hr:=hrel.out
   go_wp2_with fail
   go_ret
   refine⟨Qf ?_,((Below.refl _ w).alloc (Nat.le_refl _) _).trans (hb.mono (by omega))⟩
   rw[Tr.right,←hr,hE.out]
   simp[Tr.rightL];omega
mutual
def Tr.lvs:Tr->List ByteArray->List Lf
 |.mk es ks,p=>es.map (fun e=>(p,e))++Tr.lvsL ks p
def Tr.lvsL:List (ByteArray×Tr)->List ByteArray->List Lf
 |[],_=>[]
 |(k,t) :: ks,p=>t.lvs (p++[k])++Tr.lvsL ks p
end
mutual
theorem lvs_len:∀ (t:Tr) (p:List ByteArray),(t.lvs p).length<=t.sz
 |.mk es ks,p=>by rw[Tr.lvs,Tr.sz];have:=lvsL_len ks p;simp;omega
theorem lvsL_len:∀ (ks:List (ByteArray×Tr)) (p:List ByteArray),(Tr.lvsL ks p).length<=Tr.szL ks
 |[],p=>by simp[Tr.lvsL]
 |(k,t) :: ks,p=>by rw[Tr.lvsL,Tr.szL];have:=lvs_len t (p++[k]);have:=lvsL_len ks p;simp;omega
end
theorem qK1 {ks:List Kd}{k:Nat}{x:Kd}(h:ks[k]?=some x)(p:List ByteArray):Tr.lvsL (ks.take (k+1)) p=Tr.lvsL (ks.take k) p++x.2.lvs (p++[x.1]):=by
 induction ks generalizing k with
 |nil=>simp at h
 |cons y ks ih=>
  obtain⟨yk,yt⟩:=y
  cases k with
  |zero=>simp at h;subst h;simp[Tr.lvsL]
  |succ k=>simp only[List.take_succ_cons];rw[Tr.lvsL,Tr.lvsL,ih (by simpa using h),List.append_assoc]
theorem VQ (t:Tr):∀ (p:List ByteArray) (okp:Nat->Prop) (w:World) (ve vk vp:Value),t.rd w w.heap.size ve vk->SlA w okp 1 StE vp p->(∀ b,okp b->b<w.heap.size)->p.length+t.sz<=100000 ->
  Calls Tryz.prog 79 #[.agg #[ve,vk],vp] w (RetD w 91 5 LfA okp (t.lvs p)):=by
 induction t using Tr.ind with
 |h es ks ih=>
 intro p okp w ve vk vp h hp hok0 hN
 rw[QA]at h
 obtain⟨⟨A1,n,rfl,b1,b2,b3⟩,⟨A2,m,rfl,c1,c2,c3⟩⟩:=h
 obtain⟨A5,n5,rfl,p1,p2,p3⟩:=hp
 have hp:SlA w okp 1 StE (.slice A5 p.length n5) p:=⟨A5,n5,rfl,p1,p2,p3⟩
 have hpP:SlP w w.heap.size 1 StE (.slice A5 p.length n5) p:=hp.up (fun _ _=>rfl) hok0 fun _ _ _ h=>h
 unfold Big at b2 c2
 rw[Tr.sz]at hN
 have hkl:=JG ks
 clear p3 p2
 go_enter Tryz.func79,Tryz.ntmps79
 go_wp2_with fail
 go_loopw [5,12] (fun v i wr=>∃ k:Nat,k<=es.length/\i=.int .i64 k/\OwnD wr (w.heap.size+1) 91 5 LfA (fun b=>okp b∨w.heap.size<=b) v ((es.take k).map fun e=>(p,e)) /\
   Below (w.heap.size+1) (w.alloc (.cells #[.slice A1 es.length n,.slice A2 ks.length m] 25)) wr) (fun _ i _=>es.length-(intOf i).toNat)
 case atStart=>exact⟨0,Nat.zero_le _,rfl,OwnD.nil,Below.refl _ _⟩
 case round=>
  obtain⟨k,hk,rfl,hown,hb⟩:=hrel
  have hsz:=hb.size
  simp only[World.size_alloc]at hsz
  have hB0:Below w.heap.size w wr:=((Below.refl _ w).alloc (Nat.le_refl _) _).trans (hb.mono (by omega))
  have hw0:wr.cell? ⟨w.heap.size,0,none⟩=some (.slice A1 es.length n):=by rw[hb.cell (p:=⟨w.heap.size,0,none⟩) (by simp)];simp
  have hw1:wr.cell? ⟨w.heap.size,1,none⟩=some (.slice A2 ks.length m):=by rw[hb.cell (p:=⟨w.heap.size,1,none⟩) (by simp)];simp
  by_cases hlt:k<es.length
  ·obtain⟨x,hx⟩:∃ x,es[k]?=some x:=⟨_,List.getElem?_eq_getElem hlt⟩
   obtain⟨b,off,rfl,hbB,hc⟩:=b3 (by rintro rfl;simp at hlt)
   obtain⟨cs,⟨rfl,hok⟩,_,hu⟩:=hc k _ hx
   have e0:wr.cell? ⟨b,off+k*4,none⟩=some (.int .i64 x.dc):=(hB0.cell hbB).trans (hu 0 _ rfl)
   have e1:wr.cell? ⟨b,off+k*4+1,none⟩=some (.int .i64 x.n):=(hB0.cell hbB).trans (hu 1 _ rfl)
   have e2:wr.cell? ⟨b,off+k*4+2,none⟩=some (.string x.s):=(hB0.cell hbB).trans (hu 2 _ rfl)
   have e3:wr.cell? ⟨b,off+k*4+3,none⟩=some (.int .i64 x.v):=(hB0.cell hbB).trans (hu 3 _ rfl)
   have HX:Hid (((es.take (k+1)).map fun e=>(p,e))=((es.take k).map fun e=>(p,e))++[(p,x)]):=by
    unfold Hid;rw[List.take_add_one,hx];simp
   have HL:Hid (((es.take k).map fun e=>(p,e)).length + [(p,x)].length<=Few):=by unfold Hid Few;simp;omega
   have HO:Hid (∀ o,SlP (wr.alloc (.cells [.slice A5 p.length n5,.int .i64 x.dc,.int .i64 x.n,.string x.s,.int .i64 x.v].toArray o)) (wr.alloc (.cells [.slice A5 p.length n5,.int .i64 x.dc,.int .i64 x.n,.string x.s,.int .i64 x.v].toArray o)).heap.size 5 (LfA (wr.alloc (.cells [.slice A5 p.length n5,.int .i64 x.dc,.int .i64 x.n,.string x.s,.int .i64 x.v].toArray o)) (fun b=>(okp b∨w.heap.size<=b)/\b<(wr.alloc (.cells [.slice A5 p.length n5,.int .i64 x.dc,.int .i64 x.n,.string x.s,.int .i64 x.v].toArray o)).heap.size/\u5.ownBlock≠some b)) (.slice (some ⟨wr.heap.size,0,none⟩) 1 1) [(p,x)]):=fun o=>by
    rw[World.size_alloc]
    refine SlP.one (E:=LfA _ _) (x:=(p,x)) ⟨A5,n5,rfl,?_,hok⟩ rfl o rfl
    refine (hp.up (fun b hb'=>((hB0.alloc (by omega) _).block b (hok0 b hb'))) (fun b hb'=>⟨.inl hb',by have h1:=hok0 b hb';omega,fun e=>?_⟩) fun _ _ _ h=>h)
    have:=(OwnP.lt hown b e).1;have h1:=hok0 b hb';omega
   clear hu hx hc b3 hok
   go_wp2_with (at_builtin;with_reducible refine Za rfl (.tmp 15) (.tmp 23) _ rfl LfA.mon Yz (by decide) (by decide) rfl (hown.grow LfA.mon ((Below.refl _ _).alloc (Nat.le_refl _) _)) rfl (HO.out _) HL.out (by rw[World.size_alloc];omega) ?_;intro v1 w1 hown1 hb1 _ _)
   go_roundw
   case rel=>exact⟨k+1,by omega,by go_num,by rw[HX.out];exact hown1,(hb.alloc (by omega) _).trans hb1⟩
   case measure=>simp[intOf];omega
  ·obtain rfl:k=es.length:=by omega
   rw[List.take_of_length_le (Nat.le_refl _)]at hown
   go_wp2_with fail
   clear hw0 hw1 hB0 hsz
   obtain⟨wo,rfl⟩:∃ wo:World,wo=wr:=⟨_,rfl⟩
   go_loopw [5,29] (fun v i wr=>∃ k:Nat,k<=ks.length/\i=.int .i64 k/\OwnD wr (w.heap.size+1) 91 5 LfA (fun b=>okp b∨w.heap.size<=b) v (es.map (fun e=>(p,e))++Tr.lvsL (ks.take k) p) /\
     Below (w.heap.size+1) (w.alloc (.cells #[.slice A1 es.length n,.slice A2 ks.length m] 25)) wr) (fun _ i _=>ks.length-(intOf i).toNat)
   case atStart=>exact⟨0,Nat.zero_le _,rfl,by simpa[Tr.lvsL] using hown,hb⟩
   case round=>
    clear hown hb
    obtain⟨k,hk,rfl,hown,hb⟩:=hrel
    have hsz:=hb.size
    simp only[World.size_alloc]at hsz
    have hB0:Below w.heap.size w wr:=((Below.refl _ w).alloc (Nat.le_refl _) _).trans (hb.mono (by omega))
    have hw1:wr.cell? ⟨w.heap.size,1,none⟩=some (.slice A2 ks.length m):=by rw[hb.cell (p:=⟨w.heap.size,1,none⟩) (by simp)];simp
    by_cases hlt:k<ks.length
    ·obtain⟨⟨key,t⟩,hx⟩:∃ x,ks[k]?=some x:=⟨_,List.getElem?_eq_getElem hlt⟩
     obtain⟨b,off,rfl,hbB,hc⟩:=c3 (by rintro rfl;simp at hlt)
     obtain⟨cs,⟨ve',vk',rfl,hkb,hrd⟩,_,hu⟩:=hc k _ hx
     obtain⟨A3,n3,A4,n4,rfl,rfl⟩:=Qj hrd
     have e0:wr.cell? ⟨b,off+k*3,none⟩=some (.string key):=(hB0.cell hbB).trans (hu 0 _ rfl)
     have hmem:(key,t)∈ks:=List.mem_of_getElem? hx
     have hsm:=qZc hmem
     have hst:=qU6 hx
     have hsl:=zYm (ks:=ks) (k+1)
     have HX:Hid (es.map (fun e=>(p,e))++Tr.lvsL (ks.take (k+1)) p=es.map (fun e=>(p,e))++Tr.lvsL (ks.take k) p++t.lvs (p++[key])):=by unfold Hid;rw[qK1 hx,List.append_assoc]
     have HL:Hid ((es.map (fun e=>(p,e))++Tr.lvsL (ks.take k) p).length+(t.lvs (p++[key])).length<=Few):=by
      have h1:=lvsL_len (ks.take k) p
      have h2:=lvs_len t (p++[key])
      unfold Hid Few;simp;simp at hst;omega
     have HC1:Hid (∀ w',Below w.heap.size w w'->w'.cell? ⟨b,off+k*3+1,none⟩=some (.slice A3 t.es.length n3)/\w'.cell? ⟨b,off+k*3+2,none⟩=some (.slice A4 t.ks.length n4)):=fun w' hb'=>⟨(hb'.cell hbB).trans (hu 1 _ rfl),(hb'.cell hbB).trans (hu 2 _ rfl)⟩
     have HR:Hid (∀ w',Below w.heap.size w w'->t.rd w' w'.heap.size (.slice A3 t.es.length n3) (.slice A4 t.ks.length n4)):=fun w' hb'=>Qi hb' hb'.size _ _ _ hrd
     have HP:Hid (SlP wr wr.heap.size 1 StE (.slice A5 p.length n5) p):=hpP.imp hB0 (by omega) fun _ _ _ h=>h
     have HS:Hid (∀ w',Below wr.heap.size wr w'->w'.cell? ⟨w.heap.size,1,none⟩=some (.slice (some ⟨b,off,none⟩) ks.length m)/\w'.cell? ⟨b,off+k*3,none⟩=some (.string key)):=fun w' hb'=>⟨(hb'.cell (p:=⟨w.heap.size,1,none⟩) (by exact hsz)).trans hw1,(hb'.cell (p:=⟨b,off+k*3,none⟩) (by show b<_;omega)).trans e0⟩
     have hpl:p.length<=100000:=by omega
     have hts:p.length+1+t.sz<=100000:=by omega
     clear hu hx hc c3 hrd hst hsl
     go_upto_region 10 with (fail)
     go_cut [8] (fun vq wc=>OwnP wc wr.heap.size 9 1 StE vq (p++[key])/\Below wr.heap.size wr wc)
     case first=>
      go_region_held3 (fun w'=>w'.cell? ⟨w.heap.size,1,none⟩=some (.slice (some ⟨b,off,none⟩) ks.length m)/\w'.cell? ⟨b,off+k*3,none⟩=some (.string key))
       (first|go_keep|exact HS.out _ hq42|exact HS.out _ hq34|exact HS.out _ (hq34.alloc (by omega) _))
       (first
        |(refine ZW (v:=.slice (some ⟨_,0,none⟩) 0 0) rfl (.tmp 32) (.tmp 33) _ rfl eiStr (by decide) (by decide) (fun _ _ h=>StE.one h) rfl (OwnP.empty (base:=wr.heap.size) (by first|exact Qd rfl|exact (Qg (by simp)).trans (Qd rfl)|exact Qd (by simp)) (by omega)) rfl (HP.out.imp (by go_grown) (Nat.le_refl _) fun _ _ _ h=>h) (by unfold Few;simp;omega) (by first|(simp;done)|(simp;omega)) ?_;intro v34 w34 hown34 hb34 hg34;have hs34:=hb34.size;simp only[World.size_drew,World.size_alloc]at hs34;have hq34:Below wr.heap.size wr w34:=Below.trans (by go_grown) hb34)
        |(refine ZW rfl (.tmp 34) (.tmp 41) _ rfl eiStr (by decide) (by decide) (fun _ _ h=>StE.one h) rfl (by first|exact hown34.alloc _|exact hown34) rfl (by first|exact SlP.one (x:=key) (cs:=[.string key]) ⟨rfl,hkb⟩ rfl _ rfl|exact SlP.at1 (B:=w34.heap.size) ((World.cell?_of_block (hg34.block _ (by simp only[World.size_drew,World.size_alloc];omega) (by simp[Value.ownBlock]))).trans (by first|(simp;done)|(rw[World.cell?_drew,World.cell?_alloc_at _ _ _ _ (by simp)];rfl))) hkb (by omega)) (by unfold Few;simp;omega) (by first|(simp;omega)|omega) ?_;intro v42 w42 hown42 hb42 hg42;have hq42:Below wr.heap.size wr w42:=(by first|exact hq34.trans hb42|exact (hq34.alloc (by omega) _).trans hb42)))
      all_goals
       go_wp2_with fail
       go_meet
       case rel=>exact⟨by simpa using hown42,hq42⟩
     case rest=>
      obtain⟨hvq,hbq⟩:=hcut
      have hsq:=hbq.size
      have hBq:Below w.heap.size w wc:=hB0.trans (hbq.mono (by omega))
      obtain⟨hw2,_⟩:=HS.out wc hbq
      obtain⟨e1,e2⟩:=HC1.out wc hBq
      have HRq:=hid (HR.out wc hBq)
      have HVq:Hid (SlA wc (fun b=>wr.heap.size<=b/\b<wc.heap.size) 1 StE u8 (p++[key])):=(hvq.sla (by unfold Big;simp;omega)).up (fun _ _=>rfl) (fun _ h=>⟨h.1,h.2.1⟩) fun _ _ _ h=>h
      clear hvq hw1 e0
      go_wp2_with fail
      refine (ih key t hmem (p++[key]) _ wc _ _ u8 HRq.out HVq.out (fun _ h=>h.2) (by simp;omega)).mono ?_
      rintro e w2 ⟨v2,rfl,hv2,hb2⟩
      have hs2:=hb2.size
      have HO2:Hid (SlP w2 w2.heap.size 5 (LfA w2 (fun b=>(okp b∨w.heap.size<=b)/\b<w2.heap.size/\u5.ownBlock≠some b)) v2 (t.lvs (p++[key]))):=by
       refine (hv2.sl LfA.mon (by have:=lvs_len t (p++[key]);unfold Big;omega)).imp (Below.refl _ _) (Nat.le_refl _) fun x _ cs hx=>LfA.mon.up (fun _ _=>rfl) (fun b hb=>?_) hx
       have h1:wr.heap.size<=b:=by rcases hb.1 with h|h<;>omega
       refine⟨.inr (by omega),hb.2,fun e=>?_⟩
       have:=(OwnD.lt hown b e).2
       omega
      clear hv2
      go_wp2_with (at_builtin;go_loud (refine Za rfl (.tmp 43) (.tmp 51) _ rfl LfA.mon Yz (by decide) (by decide) rfl (hown.grow LfA.mon (hbq.trans (hb2.mono hsq))) rfl HO2.out HL.out (by omega) ?_);intro v1 w1 hown1 hb1 _ _)
      go_roundw
      case rel=>exact⟨k+1,by omega,by go_num,by rw[HX.out];exact hown1,((hb.trans (hbq.mono (by omega))).trans (hb2.mono (by omega))).trans hb1⟩
      case measure=>simp[intOf];omega
    ·obtain rfl:k=ks.length:=by omega
     rw[List.take_of_length_le (Nat.le_refl _)]at hown
     go_wp2_with fail
     go_ret
     exact⟨_,rfl,by rw[Tr.lvs];exact hown.mono (by omega),((Below.refl _ w).alloc (Nat.le_refl _) _).trans (hb.mono (by omega))⟩
def partL (c:List Sp)(dc:Int):List (Int×Int):=(c.filter fun s=>s.dc==dc).map fun s=>(s.fr,s.hi)
theorem KI {c:List Sp}{k:Nat}{x:Sp}(h:c[k]?=some x)(dc:Int):partL (c.take (k+1)) dc=partL (c.take k) dc++(if x.dc=dc then [(x.fr,x.hi)] else []):=by
 unfold partL
 rw[List.take_add_one,h]
 by_cases hd:x.dc=dc<;>simp[hd]
theorem QK (c:List Sp)(dc:Int):(partL c dc).length<=c.length:=by
 unfold partL;rw[List.length_map];exact List.length_filter_le _ _
theorem Yp (c:List Sp)(dc:Int)(vc:Value)(w:World)(h:SlP w w.heap.size 3 SpE vc c)(hN:c.length<=999999) :
  Calls Tryz.prog 96 #[vc,.int .i64 dc] w (RetO w 166 2 (fun _=>RuE) (partL c dc)):=by
 obtain⟨A,n,rfl,b1,b2,b3⟩:=h
 unfold Big at b2
 go_enter Tryz.func96,Tryz.ntmps96
 go_wp2_with fail
 go_loopw [5,9] (fun v i wr=>∃ k:Nat,k<=c.length/\i=.int .i64 k/\OwnP wr w.heap.size 166 2 RuE v (partL (c.take k) dc)/\Below w.heap.size w wr) (fun _ i _=>c.length-(intOf i).toNat)
 case atStart=>exact⟨0,Nat.zero_le _,rfl,OwnP.nil,Below.refl _ _⟩
 case round=>
  obtain⟨k,hk,rfl,hown,hb⟩:=hrel
  have hsz:=hb.size
  by_cases hlt:k<c.length
  ·obtain⟨x,hx⟩:∃ x,c[k]?=some x:=⟨_,List.getElem?_eq_getElem hlt⟩
   obtain⟨b,off,rfl,hbB,hc⟩:=b3 (by rintro rfl;simp at hlt)
   obtain⟨cs,⟨rfl,hok⟩,_,hu⟩:=hc k _ hx
   have e0:wr.cell? ⟨b,off+k*3,none⟩=some (.int .i64 x.dc):=(hb.cell hbB).trans (hu 0 _ rfl)
   have e1:wr.cell? ⟨b,off+k*3+1,none⟩=some (.int .i64 x.fr):=(hb.cell hbB).trans (hu 1 _ rfl)
   have e2:wr.cell? ⟨b,off+k*3+2,none⟩=some (.int .i64 x.hi):=(hb.cell hbB).trans (hu 2 _ rfl)
   have HX:=hid (KI hx dc)
   have HL:Hid ((partL (c.take k) dc).length + [(x.fr,x.hi)].length<=Few):=by
    have:=QK (c.take k) dc
    unfold Hid Few;simp at this ⊢;omega
   have hr:I64 (x.fr,x.hi).1/\I64 (x.fr,x.hi).2:=⟨hok.fr,hok.hi⟩
   have HS:Hid (∀ w',Below w.heap.size wr w'->w'.cell? ⟨b,off+k*3+1,none⟩=some (.int .i64 x.fr)/\w'.cell? ⟨b,off+k*3+2,none⟩=some (.int .i64 x.hi)):=fun w' hb'=>⟨(hb'.cell hbB).trans e1,(hb'.cell hbB).trans e2⟩
   clear hu hx hc b3 hok
   by_cases hd:x.dc=dc
   ·have hd':(x.dc==dc)=true:=by simpa using hd
    have HD:=hid hd
    clear hd
    go_wp2_with fail
    go_region_held3 (fun w'=>w'.cell? ⟨b,off+k*3+1,none⟩=some (.int .i64 x.fr)/\w'.cell? ⟨b,off+k*3+2,none⟩=some (.int .i64 x.hi)) (first|go_keep|exact HS.out _ (((Below.refl _ wr).alloc hsz _).drew.trans hb1))
     (first|(refine ZW rfl (.tmp 19) (.tmp 31) _ rfl Yc (by decide) (by decide) (fun _ _ h=>h.one) rfl (hown.drew.alloc _) rfl (SlP.one (x:=(x.fr,x.hi)) (cs:=[.int .i64 x.fr,.int .i64 x.hi]) ⟨rfl,hr⟩ rfl _ rfl) HL.out (by rw[World.size_drew,World.size_alloc];omega) ?_;intro v1 w1 hown1 hb1 hg1))
    go_wp2_with fail
    go_roundw
    case rel=>exact⟨k+1,by omega,by go_num,by rw[HX.out,if_pos HD.out];exact hown1,(hb.alloc hsz _).drew.trans hb1⟩
    case measure=>simp[intOf];omega
   ·have hd':(x.dc==dc)=false:=by simpa using hd
    have HD:=hid hd
    clear hd
    go_wp2_with fail
    go_roundw
    case rel=>exact⟨k+1,by omega,by go_num,by rw[HX.out,if_neg HD.out,List.append_nil];exact hown,hb⟩
    case measure=>simp[intOf];omega
  ·obtain rfl:k=c.length:=by omega
   rw[List.take_of_length_le (Nat.le_refl _)]at hown
   go_wp2_with fail
   go_ret
   exact⟨_,rfl,hown,hb⟩
def inR (r:Int×Int)(n:Int):Bool:=decide (r.1<=n)&&decide (n<=r.2)
def hasL (l:List (Int×Int))(n:Int):Bool:=l.any fun r=>inR r n
def Zg (l:List (Int×Int)):Prop:=∀ r∈l,0<=r.1/\r.1<=1099511627777/\0<=r.2/\r.2<=1099511627777
def nextS (above:Int)(s:Int×Bool)(x:Int):Int×Bool:=if above<x/\(s.2=false∨x<s.1) then (x,true) else s
def nextL (l:List Int)(above:Int):Int×Bool:=l.foldl (nextS above) (0,false)
def endsL (l:List (Int×Int)):List Int:=l.flatMap fun r=>[r.1,r.2+1]
def Qz (dc:Int)(l:List (Int×Int)):List Sp:=l.map fun r=>⟨dc,r.1,r.2⟩
theorem ZF {α:Type}{xs:List α}{k:Nat}{x:α}(h:xs[k]?=some x):xs.take (k+1)=xs.take k++[x]:=by rw[List.take_add_one,h];rfl
theorem X1 (l:List (Int×Int))(n:Int)(v:Value)(w:World)(B:Nat)(h:SlP w B 2 RuE v l) :
  Calls Tryz.prog 95 #[v,.int .i64 n] w fun e w'=>e=.returned (.bool (hasL l n))/\w=w':=by
 obtain⟨A,m,rfl,b1,b2,b3⟩:=h
 unfold Big at b2
 go_enter Tryz.func95,Tryz.ntmps95
 go_wp2_with fail
 go_loop [8] (fun i=>∃ k:Nat,k<=l.length/\i=.int .i64 k/\Hid (hasL (l.take k) n=false)) (fun i=>l.length-(intOf i).toNat)
 case atStart=>exact⟨0,Nat.zero_le _,rfl,rfl⟩
 case round=>
  obtain⟨k,hk,rfl,hrel⟩:=hrel
  by_cases hlt:k<l.length
  ·obtain⟨x,hx⟩:∃ x,l[k]?=some x:=⟨_,List.getElem?_eq_getElem hlt⟩
   obtain⟨b,off,rfl,hbB,hc⟩:=b3 (by rintro rfl;simp at hlt)
   obtain⟨cs,⟨rfl,hok⟩,_,hu⟩:=hc k _ hx
   have e0:w.cell? ⟨b,off+k*2,none⟩=some (.int .i64 x.1):=hu 0 _ rfl
   have e1:w.cell? ⟨b,off+k*2+1,none⟩=some (.int .i64 x.2):=hu 1 _ rfl
   have HX:Hid (hasL (l.take (k+1)) n=inR x n):=by
    unfold Hid;rw[ZF hx];have:=hrel.out;unfold hasL at *;rw[List.any_append,this];simp
   have HM:Hid (x∈l):=List.mem_of_getElem? hx
   clear hu hx hc b3
   by_cases h1:x.1<=n
   ·by_cases h2:n<=x.2
    ·go_wp2_with fail
     go_ret
     refine⟨Qf ?_,rfl⟩
     exact (List.any_eq_true.2 ⟨x,HM.out,by simp[inR,h1,h2]⟩).symm
    ·go_wp2_with fail
     go_round
     case rel=>exact⟨k+1,by omega,by go_num,by unfold Hid;rw[HX.out];simp[inR];omega⟩
     case measure=>simp[intOf];omega
   ·go_wp2_with fail
    go_round
    case rel=>exact⟨k+1,by omega,by go_num,by unfold Hid;rw[HX.out];simp[inR];omega⟩
    case measure=>simp[intOf];omega
  ·obtain rfl:k=l.length:=by omega
   have hr:=hrel.out
   rw[List.take_of_length_le (Nat.le_refl _)]at hr
   have HR:=hid hr
   clear hr
   go_wp2_with fail
   go_ret
   exact⟨Qf HR.out.symm,rfl⟩
theorem Zi (l:List Int)(n:Int)(v:Value)(w:World)(B:Nat)(h:SlP w B 1 InE v l) :
  Calls Tryz.prog 190 #[v,.int .i64 n] w fun e w'=>e=.returned (.tuple #[.int .i64 (nextL l n).1,.bool (nextL l n).2])/\w=w':=by
 obtain⟨A,m,rfl,b1,b2,b3⟩:=h
 unfold Big at b2
 go_enter Tryz.func190,Tryz.ntmps190
 go_wp2_with fail
 go_loop [6,7,11] (fun p q i=>∃ (k:Nat) (s:Int×Bool),k<=l.length/\i=.int .i64 k/\p=.int .i64 s.1/\q=.bool s.2/\Hid (s=nextL (l.take k) n)) (fun _ _ i=>l.length-(intOf i).toNat)
 case atStart=>exact⟨0,(0,false),Nat.zero_le _,rfl,rfl,rfl,rfl⟩
 case round=>
  obtain⟨k,⟨p,q⟩,hk,rfl,rfl,rfl,hrel⟩:=hrel
  by_cases hlt:k<l.length
  ·obtain⟨x,hx⟩:∃ x,l[k]?=some x:=⟨_,List.getElem?_eq_getElem hlt⟩
   obtain⟨b,off,rfl,hbB,hc⟩:=b3 (by rintro rfl;simp at hlt)
   obtain⟨cs,⟨rfl,hok⟩,_,hu⟩:=hc k _ hx
   have e0:w.cell? ⟨b,off+k,none⟩=some (.int .i64 x):=by simpa using hu 0 _ rfl
   have HX:Hid (nextL (l.take (k+1)) n=nextS n (p,q) x):=by
    unfold Hid;rw[ZF hx];have:=hrel.out;unfold nextL at *;rw[List.foldl_append,←this];rfl
   clear hu hx hc b3 hok
   by_cases h1:n<x
   ·cases q
    ·go_wp2_with fail
     go_round
     case rel=>exact⟨k+1,(x,true),by omega,by go_num,rfl,rfl,by unfold Hid;rw[HX.out];simp[nextS,h1]⟩
     case measure=>simp[intOf];omega
    ·by_cases h2:x<p
     ·go_wp2_with fail
      go_round
      case rel=>exact⟨k+1,(x,true),by omega,by go_num,rfl,rfl,by unfold Hid;rw[HX.out];simp[nextS,h1,h2]⟩
      case measure=>simp[intOf];omega
     ·go_wp2_with fail
      go_round
      case rel=>exact⟨k+1,(p,true),by omega,by go_num,rfl,rfl,by unfold Hid;rw[HX.out];simp[nextS,h2]⟩
      case measure=>simp[intOf];omega
   ·go_wp2_with fail
    go_round
    case rel=>exact⟨k+1,(p,q),by omega,by go_num,rfl,rfl,by unfold Hid;rw[HX.out];simp[nextS,h1]⟩
    case measure=>simp[intOf];omega
  ·obtain rfl:k=l.length:=by omega
   have hr:=hrel.out
   rw[List.take_of_length_le (Nat.le_refl _)]at hr
   go_wp2_with fail
   go_ret2
   rw[←hr]
   exact⟨rfl,rfl⟩
theorem JI (l:List (Int×Int))(v:Value)(w:World)(h:SlP w w.heap.size 2 RuE v l)(hN:l.length<=400000)(hR:Zg l) :
  Calls Tryz.prog 189 #[v] w (RetO w 2 1 (fun _=>InE) (endsL l)):=by
 obtain⟨A,n,rfl,b1,b2,b3⟩:=h
 unfold Big at b2
 go_enter Tryz.func189,Tryz.ntmps189
 go_wp2_with fail
 go_loopw [3,7] (fun v i wr=>∃ k:Nat,k<=l.length/\i=.int .i64 k/\OwnP wr w.heap.size 2 1 InE v (endsL (l.take k))/\Below w.heap.size w wr) (fun _ i _=>l.length-(intOf i).toNat)
 case atStart=>exact⟨0,Nat.zero_le _,rfl,OwnP.nil,Below.refl _ _⟩
 case round=>
  obtain⟨k,hk,rfl,hown,hb⟩:=hrel
  have hsz:=hb.size
  by_cases hlt:k<l.length
  ·obtain⟨x,hx⟩:∃ x,l[k]?=some x:=⟨_,List.getElem?_eq_getElem hlt⟩
   obtain⟨b,off,rfl,hbB,hc⟩:=b3 (by rintro rfl;simp at hlt)
   obtain⟨cs,⟨rfl,hok⟩,_,hu⟩:=hc k _ hx
   have e0:wr.cell? ⟨b,off+k*2,none⟩=some (.int .i64 x.1):=(hb.cell hbB).trans (hu 0 _ rfl)
   have e1:wr.cell? ⟨b,off+k*2+1,none⟩=some (.int .i64 x.2):=(hb.cell hbB).trans (hu 1 _ rfl)
   have HX:Hid (endsL (l.take (k+1))=endsL (l.take k)++[x.1,x.2+1]):=by unfold Hid endsL;rw[ZF hx,List.flatMap_append];simp
   have HL:Hid ((endsL (l.take k)).length + [x.1,x.2+1].length<=Few):=by
    have:(endsL (l.take k)).length=2*(l.take k).length:=by
     unfold endsL;rw[List.length_flatMap];simp[List.map_const'];omega
    unfold Hid Few;rw[this];simp;omega
   have hr:=hR x (List.mem_of_getElem? hx)
   have i0:InE x.1 [.int .i64 x.1]:=⟨rfl,hok.1⟩
   have i1:InE (x.2+1) [.int .i64 (x.2+1)]:=⟨rfl,by unfold I64;omega⟩
   have HS:Hid (∀ w',Below w.heap.size wr w'->w'.cell? ⟨b,off+k*2,none⟩=some (.int .i64 x.1)/\w'.cell? ⟨b,off+k*2+1,none⟩=some (.int .i64 x.2)):=fun w' hb'=>⟨(hb'.cell hbB).trans e0,(hb'.cell hbB).trans e1⟩
   have J0:=hid i0
   have J1:=hid i1
   have hwr:IntKind.i64.wrap (x.2+1)=x.2+1:=IntWalk.i64_in _ (by omega)
   clear hu hx hc b3 hok i0 i1
   go_wp2_with fail
   go_region_held3 (fun w'=>w'.cell? ⟨b,off+k*2,none⟩=some (.int .i64 x.1)/\w'.cell? ⟨b,off+k*2+1,none⟩=some (.int .i64 x.2)) (first|go_keep|exact HS.out _ (((Below.refl _ wr).alloc hsz _).drew.trans hb1))
    (first|(refine ZW rfl (.tmp 10) (.tmp 22) _ rfl Vk (by decide) (by decide) (fun _ _ h=>h.one) rfl (hown.drew.alloc _) rfl (SlP.two J0.out J1.out rfl rfl _ rfl) HL.out (by rw[World.size_drew,World.size_alloc];omega) ?_;intro v1 w1 hown1 hb1 hg1))
   clear hwr
   go_wp2_with fail
   go_roundw
   case rel=>exact⟨k+1,by omega,by go_num,by rw[HX.out];exact hown1,(hb.alloc hsz _).drew.trans hb1⟩
   case measure=>simp[intOf];omega
  ·obtain rfl:k=l.length:=by omega
   rw[List.take_of_length_le (Nat.le_refl _)]at hown
   go_wp2_with fail
   go_ret
   exact⟨_,rfl,hown,hb⟩
theorem Jr (l:List (Int×Int))(dc:Int)(v:Value)(w:World)(h:SlP w w.heap.size 2 RuE v l)(hN:l.length<=999999)(hd:I64 dc) :
  Calls Tryz.prog 162 #[.int .i64 dc,v] w (RetO w 45 3 (fun _=>SpE) (Qz dc l)):=by
 obtain⟨A,n,rfl,b1,b2,b3⟩:=h
 unfold Big at b2
 go_enter Tryz.func162,Tryz.ntmps162
 go_wp2_with fail
 go_loopw [5,9] (fun v i wr=>∃ k:Nat,k<=l.length/\i=.int .i64 k/\OwnP wr w.heap.size 45 3 SpE v (Qz dc (l.take k))/\Below w.heap.size w wr) (fun _ i _=>l.length-(intOf i).toNat)
 case atStart=>exact⟨0,Nat.zero_le _,rfl,OwnP.nil,Below.refl _ _⟩
 case round=>
  obtain⟨k,hk,rfl,hown,hb⟩:=hrel
  have hsz:=hb.size
  by_cases hlt:k<l.length
  ·obtain⟨x,hx⟩:∃ x,l[k]?=some x:=⟨_,List.getElem?_eq_getElem hlt⟩
   obtain⟨b,off,rfl,hbB,hc⟩:=b3 (by rintro rfl;simp at hlt)
   obtain⟨cs,⟨rfl,hok⟩,_,hu⟩:=hc k _ hx
   have e0:wr.cell? ⟨b,off+k*2,none⟩=some (.int .i64 x.1):=(hb.cell hbB).trans (hu 0 _ rfl)
   have e1:wr.cell? ⟨b,off+k*2+1,none⟩=some (.int .i64 x.2):=(hb.cell hbB).trans (hu 1 _ rfl)
   have HX:Hid (Qz dc (l.take (k+1))=Qz dc (l.take k)++[⟨dc,x.1,x.2⟩]):=by unfold Hid Qz;rw[ZF hx,List.map_append];rfl
   have HL:Hid ((Qz dc (l.take k)).length + [(⟨dc,x.1,x.2⟩:Sp)].length<=Few):=by
    unfold Hid Few Qz;simp;omega
   have J0:Hid (SpE ⟨dc,x.1,x.2⟩ [.int .i64 dc,.int .i64 x.1,.int .i64 x.2]):=⟨rfl,hd,hok.1,hok.2⟩
   have HS:Hid (∀ w',Below w.heap.size wr w'->w'.cell? ⟨b,off+k*2,none⟩=some (.int .i64 x.1)/\w'.cell? ⟨b,off+k*2+1,none⟩=some (.int .i64 x.2)):=fun w' hb'=>⟨(hb'.cell hbB).trans e0,(hb'.cell hbB).trans e1⟩
   clear hu hx hc b3 hok
   go_wp2_with fail
   go_region_held3 (fun w'=>w'.cell? ⟨b,off+k*2,none⟩=some (.int .i64 x.1)/\w'.cell? ⟨b,off+k*2+1,none⟩=some (.int .i64 x.2)) (first|go_keep|exact HS.out _ (((Below.refl _ wr).alloc hsz _).drew.trans hb1))
    (first|(refine ZW rfl (.tmp 12) (.tmp 25) _ rfl JF (by decide) (by decide) (fun _ _ h=>h.one) rfl (hown.drew.alloc _) rfl (SlP.one J0.out rfl _ rfl) HL.out (by rw[World.size_drew,World.size_alloc];omega) ?_;intro v1 w1 hown1 hb1 hg1))
   go_wp2_with fail
   go_roundw
   case rel=>exact⟨k+1,by omega,by go_num,by rw[HX.out];exact hown1,(hb.alloc hsz _).drew.trans hb1⟩
   case measure=>simp[intOf];omega
  ·obtain rfl:k=l.length:=by omega
   rw[List.take_of_length_le (Nat.le_refl _)]at hown
   go_wp2_with fail
   go_ret
   exact⟨_,rfl,hown,hb⟩
end Go.Proofs.YtbcoelggdikipaaGreat
