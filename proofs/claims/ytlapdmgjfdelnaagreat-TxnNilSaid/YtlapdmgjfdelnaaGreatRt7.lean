/- What the laws need, part 7: What is read at once behind a change: plain. What is read hangs on no name of a change: plain. A go: its ground, its changes, and what they have made of it: plain. A go, in memory. No condition. span.Meet, context.Meet, context.Range. No condition but that there are not too many. Which names two contexts have both: plain. tree.Clone at right trees, causal.Clone. No condition but that there are not too many. tributarylaw09.small and right, at one and at two. No condition. Lists of what is known, in a block. No condition. context.Range, txn.own, txn.Begin. No condition but that there is not too much. slices.Clone at texts; txn.clone. No condition. op.leaf: what changes at a path's end. Condition: not too big. op.Kind, paths, and what acts are of; both the program's and the document's. No condition. op.checkPath, op.check, op.RightPath, op.Right. No condition. -/
import Derived.Test.YtlapdmgjfdelnaaGreatRt6
namespace Go.Proofs.YtlapdmgjfdelnaaGreat
open Go.RowKit
set_option maxRecDepth 100000

def aftK (x : Kn) (o : Opr) (d : Dt) : Kn := jn x (appT x.1 o d, appC x.1 o d)
theorem aft_ok {x : Kn} (hx : KOk x) {o : Opr} {d : Dt} (h : appI x.1 o d = 0) : KOk (aftK x o d) := jn_okK hx (app_right h).1
theorem st_es {u : Tr} (ho : u.Ord) {y : En} : y ∈ u.es ↔ stE u [] y.dot = some y := by rw [stE_some ho, ← mem_es]; simp
end Go.Proofs.YtlapdmgjfdelnaaGreat

namespace Go.Proofs.YtlapdmgjfdelnaaGreat
open Go.RowKit
set_option maxRecDepth 100000

def renE (f : Dt → Dt) (e : En) : En := ⟨(f e.dot).dc, (f e.dot).n, e.s, e.v⟩
/-- Two trees that are one but for the names. -/
def RnT (f : Dt → Dt) (s t : Tr) : Prop := ∀ p y, ((p, y) : Lf) ∈ t.lvs [] ↔ ∃ e, ((p, e) : Lf) ∈ s.lvs [] ∧ y = renE f e
structure RnK (f : Dt → Dt) (x y : Kn) : Prop where
  okx : KOk x
  oky : KOk y
  lf : RnT f x.1 y.1
  inj : ∀ d e, hasC x.2 d = true → hasC x.2 e = true → f d = f e → d = e
  ctx : ∀ d, hasC y.2 d = true ↔ ∃ e, hasC x.2 e = true ∧ f e = d
theorem RnT.get {f : Dt → Dt} {s t : Tr} (h : RnT f s t) (hs : s.Ord) (ht : t.Ord) (p : List ByteArray) : RnT f (getK s p) (getK t p) := fun q y => by
  rw [mem_getP p ht, h]
  exact ⟨fun ⟨e, h1, h2⟩ => ⟨e, (mem_getP p hs).2 h1, h2⟩, fun ⟨e, h1, h2⟩ => ⟨e, (mem_getP p hs).1 h1, h2⟩⟩
theorem RnT.keys {f : Dt → Dt} {s t : Tr} (h : RnT f s t) (hs : s.Ord) (ht : t.Ord) : s.ks.map (·.1) = t.ks.map (·.1) := by
  refine sorted_ext ltS_irrefl (fun _ _ _ h k => ltS_trans h k) ?_ ?_ fun k => ?_
  · obtain ⟨es, ks⟩ := s
    exact List.pairwise_map.2 (ord_iff.1 hs).2.1
  · obtain ⟨es, ks⟩ := t
    exact List.pairwise_map.2 (ord_iff.1 ht).2.1
  · rw [keys_leaf hs, keys_leaf ht]
    exact ⟨fun ⟨q, e, h1⟩ => ⟨q, _, (h _ _).2 ⟨e, h1, rfl⟩⟩, fun ⟨q, y, h1⟩ => by obtain ⟨e, h2, _⟩ := (h _ _).1 h1; exact ⟨q, e, h2⟩⟩
theorem es_nodup {t : Tr} (ht : t.Ord) : t.es.Nodup := by
  obtain ⟨es, ks⟩ := t
  exact (ord_iff.1 ht).1.imp fun {a b} hh e => by rw [e, ltD_irrefl] at hh; cases hh
theorem RnT.es {f : Dt → Dt} {s t : Tr} (h : RnT f s t) (hs : s.Ord) (ht : t.Ord) (hi : ∀ d ∈ s.es, ∀ e ∈ s.es, f d.dot = f e.dot → d.dot = e.dot) : t.es.Perm (s.es.map (renE f)) := by
  refine (List.perm_ext_iff_of_nodup (es_nodup ht) ?_).2 fun y => ?_
  · refine List.pairwise_map.2 ((es_nodup hs).imp_of_mem fun {a b} ha hb hne e => hne ?_)
    have h1 : a.dot = b.dot := hi a ha b hb (congrArg En.dot e)
    have h2 := (st_es hs).1 ha
    have h3 := (st_es hs).1 hb
    rw [h1, h3] at h2; cases h2; rfl
  · rw [← mem_es, h, List.mem_map]
    exact ⟨fun ⟨e, h1, h2⟩ => ⟨e, mem_es.1 h1, h2.symm⟩, fun ⟨e, h1, h2⟩ => ⟨e, mem_es.2 h1, h2.symm⟩⟩
theorem sumP_ren (f : Dt → Dt) (es : List En) : sumP (es.map (renE f)) = sumP es := by
  induction es with
  | nil => rfl
  | cons e es ih => rw [List.map_cons, sumP_cons, sumP_cons, ih]; rfl
theorem view_ren {f : Dt → Dt} {s t : Tr} (h : RnT f s t) (hs : s.right 5 = true) (ht : t.right 5 = true) (hi : ∀ d ∈ s.es, ∀ e ∈ s.es, f d.dot = f e.dot → d.dot = e.dot) (hz : s.es.length ≤ 100) (k : Int) : viewK k s = viewK k t := by
  have os := right_ord _ _ hs
  have ot := right_ord _ _ ht
  have hp := h.es os ot hi
  have hl := hp.length_eq
  rw [List.length_map] at hl
  have e1 : onB s = onB t := by unfold onB; rw [hs, ht, hl]
  have hbd : ∀ {A : Tr}, A.right 5 = true → ∀ e ∈ A.es, -1099511627776 ≤ e.v ∧ e.v ≤ 1099511627776 := fun {A} hA e he => by
    have := (right_leaf A 5 hA ([], e) (mem_es.2 he)).2.2
    unfold En.right at this; simp at this; omega
  have e2 : valT s = valT t := by
    unfold valT
    rw [hs, ht, if_pos rfl, if_pos rfl, (sumE_P (hbd hs) hz).1, (sumE_P (hbd ht) (by omega)).1, sumP_perm hp, sumP_ren]
  have e3 : elemsOf s = elemsOf t := by
    rw [elems_right hs, elems_right ht]
    refine sorted_ext ltS_irrefl (fun _ _ _ h k => ltS_trans h k) (elL_sorted os) (elL_sorted ot) fun x => ?_
    rw [elL_mem, elL_mem]
    exact ⟨fun ⟨e, h1⟩ => ⟨_, (h _ _).2 ⟨e, h1, rfl⟩⟩, fun ⟨y, h1⟩ => by obtain ⟨e, h2, _⟩ := (h _ _).1 h1; exact ⟨e, h2⟩⟩
  have e4 : valsOf s = valsOf t := by
    rw [valsR hs, valsR ht]
    refine sdExt fun x => ?_
    unfold txtL
    rw [List.mem_map, List.mem_map]
    constructor
    · rintro ⟨e, h1, rfl⟩; exact ⟨renE f e, mem_es.1 ((h _ _).2 ⟨e, mem_es.2 h1, rfl⟩), rfl⟩
    · rintro ⟨y, h1, rfl⟩
      obtain ⟨e, h2, rfl⟩ := (h _ _).1 (mem_es.2 h1)
      exact ⟨e, mem_es.1 h2, rfl⟩
  have e5 : keysOf s = keysOf t := by unfold keysOf; rw [hs, ht, if_pos rfl, if_pos rfl, h.keys os ot]
  unfold viewK
  rw [e1, e2, e3, e4, e5]
/-- Which of a change's tree's leaves it has seen. -/
def seeAt (o : Opr) (p : List ByteArray) : Prop := if o.act = 3 ∨ o.act = 4 then ∃ q, p = o.path ++ [o.s] ++ q else if o.act = 5 then False else if o.act = 6 then p = o.path else ∃ q, p = o.path ++ q
theorem sees_iff {t : Tr} (h : t.Ord) {o : Opr} {x : Dt} : x ∈ seesD t o ↔ ∃ p e, ((p, e) : Lf) ∈ t.lvs [] ∧ e.dot = x ∧ seeAt o p := by
  unfold seesD seeAt
  split
  · rw [getP_dots h]
    exact ⟨fun ⟨q, e, h1, h2⟩ => ⟨_, e, h1, h2, q, rfl⟩, fun ⟨p, e, h1, h2, q, h3⟩ => ⟨q, e, h3 ▸ h1, h2⟩⟩
  · split
    · simp
    · split
      · rw [own_at h]
        exact ⟨fun ⟨e, h1, h2⟩ => ⟨_, e, h1, h2, rfl⟩, fun ⟨p, e, h1, h2, h3⟩ => ⟨e, h3 ▸ h1, h2⟩⟩
      · rw [getP_dots h]
        exact ⟨fun ⟨q, e, h1, h2⟩ => ⟨_, e, h1, h2, q, rfl⟩, fun ⟨p, e, h1, h2, q, h3⟩ => ⟨q, e, h3 ▸ h1, h2⟩⟩
theorem RnK.sees {f : Dt → Dt} {x y : Kn} (h : RnK f x y) {o : Opr} {z : Dt} (hz : hasC x.2 z = true) : f z ∈ seesD y.1 o ↔ z ∈ seesD x.1 o := by
  rw [sees_iff h.oky.ord, sees_iff h.okx.ord]
  constructor
  · rintro ⟨p, e, h1, h2, h3⟩
    obtain ⟨e1, h4, rfl⟩ := (h.lf _ _).1 h1
    exact ⟨p, e1, h4, h.inj _ _ (h.okx.has _ h4) hz h2, h3⟩
  · rintro ⟨p, e, h1, rfl, h3⟩
    exact ⟨p, renE f e, (h.lf _ _).2 ⟨e, h1, rfl⟩, rfl, h3⟩
theorem RnK.fullAt {f : Dt → Dt} {x y : Kn} (h : RnK f x y) (p : List ByteArray) (k : Nat) : fullAt x.1 p k = fullAt y.1 p k := by
  have h1 := (h.lf.get h.okx.ord h.oky.ord (p.take k)).keys (getP_ord h.okx.ord _) (getP_ord h.oky.ord _)
  have h2 : (getK x.1 (p.take k)).ks.length = (getK y.1 (p.take k)).ks.length := by have := congrArg List.length h1; simpa using this
  have h3 : ∀ s, hasK (getK x.1 (p.take k)) s = hasK (getK y.1 (p.take k)) s := fun s => by
    rw [Bool.eq_iff_iff]
    unfold hasK
    rw [List.any_eq_true, List.any_eq_true]
    have h4 : ∀ t : Tr, (∃ z ∈ t.ks, decide (z.1 = s) = true) ↔ s ∈ t.ks.map (·.1) := fun t => by rw [List.mem_map]; simp
    rw [h4, h4, h1]
  unfold Go.Proofs.YtlapdmgjfdelnaaGreat.fullAt
  rw [h2, h3]
theorem RnK.dotEs {f : Dt → Dt} {x y : Kn} (h : RnK f x y) (p : List ByteArray) : ∀ d ∈ (getK x.1 p).es, ∀ e ∈ (getK x.1 p).es, f d.dot = f e.dot → d.dot = e.dot := fun d hd e he => by
  have h1 : ∀ d ∈ (getK x.1 p).es, hasC x.2 d.dot = true := fun d hd => h.okx.has _ ((mem_getP p h.okx.ord).1 (mem_es.2 hd))
  exact h.inj _ _ (h1 d hd) (h1 e he)
theorem RnK.full {f : Dt → Dt} {x y : Kn} (h : RnK f x y) (o : Opr) : fullB x.1 o = fullB y.1 o := by
  have h1 := ((h.lf.get h.okx.ord h.oky.ord (endP o)).es (getP_ord h.okx.ord _) (getP_ord h.oky.ord _) (h.dotEs _)).length_eq
  rw [List.length_map] at h1
  unfold fullB fullP
  rw [h1, any_congr' fun k _ => h.fullAt (endP o) k]
theorem RnK.app {f : Dt → Dt} {x y : Kn} (h : RnK f x y) (o : Opr) {d e : Dt} (hd : d.right = true) (he : e.right = true) (hd' : hasC x.2 d = false) (he' : hasC y.2 e = false) : appI x.1 o d = appI y.1 o e := by
  have hx : x.1.right 5 = true := (right_iff h.okx.ord).2 h.okx.leaf
  have hy : y.1.right 5 = true := (right_iff h.oky.ord).2 h.oky.leaf
  have hno : ∀ {z : Kn} {c : Dt}, KOk z → hasC z.2 c = false → c ∉ z.1.dots := fun {z c} hz hc hm => by
    obtain ⟨p, e, h1, rfl⟩ := (mem_dots _ _).1 hm
    rw [hz.has _ h1] at hc; cases hc
  unfold appI
  rw [hx, hy, chk_mk' hx hd (hno h.okx hd'), chk_mk' hy he (hno h.oky he'), h.full o]
theorem aft_lvs {x : Kn} (hx : KOk x) {o : Opr} {d : Dt} (h : appI x.1 o d = 0) (hd : hasC x.2 d = false) (p : List ByteArray) (e : En) : ((p, e) : Lf) ∈ (aftK x o d).1.lvs [] ↔ (entryB o.act = true ∧ p = endP o ∧ e = entE o d) ∨ (((p, e) : Lf) ∈ x.1.lvs [] ∧ e.dot ∉ seesD x.1 o) := by
  have hX : KOk (appT x.1 o d, appC x.1 o d) := (app_right h).1
  have hs : ∀ {t : Tr}, t.Ord → (((p, e) : Lf) ∈ t.lvs [] ↔ stE t p e.dot = some e) := fun {t} ho => by rw [stE_some ho]; simp
  rw [hs (aft_ok hx h).ord, hs hx.ord]
  unfold aftK
  rw [jn_st hx hX]
  simp only
  rw [app_st h, app_has h]
  by_cases hz : e.dot = d
  · have hn : stE x.1 p e.dot = none := by
      cases hs : stE x.1 p e.dot with
      | none => rfl
      | some y => have h1 : hasC x.2 e.dot = true := (stE_has hx hs).1; rw [hz, hd] at h1; cases h1
    rw [hn, hz, hd]
    by_cases h1 : entryB o.act = true ∧ p = endP o
    · rw [if_pos ⟨h1.1, h1.2, rfl⟩]
      simp [jnO, h1.1, h1.2, eq_comm]
    · rw [if_neg (fun q => h1 ⟨q.1, q.2.1⟩)]
      simp only [jnO]
      exact ⟨fun q => (by cases q), fun q => by rcases q with ⟨a, b, _⟩ | ⟨a, _⟩; exact absurd ⟨a, b⟩ h1; cases a⟩
  · rw [if_neg (fun q => hz q.2.2)]
    have hne : e ≠ entE o d := fun q => hz (by rw [q]; rfl)
    cases hs : stE x.1 p e.dot with
    | none => simp [jnO, hne]
    | some y => by_cases h1 : e.dot ∈ seesD x.1 o <;> simp [jnO, h1, hz, hne]
theorem aft_has' {x : Kn} (hx : KOk x) {o : Opr} {d : Dt} (h : appI x.1 o d = 0) (z : Dt) : hasC (aftK x o d).2 z = true ↔ hasC x.2 z = true ∨ z = d := by
  have hX : KOk (appT x.1 o d, appC x.1 o d) := (app_right h).1
  unfold aftK
  rw [jn_has hx hX]
  simp only
  rw [app_has h, Bool.or_eq_true, decide_eq_true_eq]
  constructor
  · rintro (h1 | h1 | h1)
    · exact .inl h1
    · exact .inr h1
    · obtain ⟨q, e, h2, rfl⟩ := sees_at hx.ord h1
      exact .inl (hx.has _ h2)
  · rintro (h1 | h1)
    · exact .inl h1
    · exact .inr (.inl h1)
theorem RnK.step {f : Dt → Dt} {x y : Kn} (h : RnK f x y) {o : Opr} {d : Dt} (ha : appI x.1 o d = 0) (hb : appI y.1 o (f d) = 0) (hd : hasC x.2 d = false) (he : hasC y.2 (f d) = false) : RnK f (aftK x o d) (aftK y o (f d)) := by
  refine ⟨aft_ok h.okx ha, aft_ok h.oky hb, fun p z => ?_, fun a b h1 h2 h3 => ?_, fun z => ?_⟩
  · rw [aft_lvs h.oky hb he]
    constructor
    · rintro (⟨h1, h2, rfl⟩ | ⟨h1, h2⟩)
      · exact ⟨entE o d, (aft_lvs h.okx ha hd _ _).2 (.inl ⟨h1, h2, rfl⟩), rfl⟩
      · obtain ⟨e, h3, rfl⟩ := (h.lf _ _).1 h1
        exact ⟨e, (aft_lvs h.okx ha hd _ _).2 (.inr ⟨h3, fun h4 => h2 ((h.sees (h.okx.has _ h3)).2 h4)⟩), rfl⟩
    · rintro ⟨e, h1, rfl⟩
      rcases (aft_lvs h.okx ha hd _ _).1 h1 with ⟨h2, h3, rfl⟩ | ⟨h2, h3⟩
      · exact .inl ⟨h2, h3, rfl⟩
      · exact .inr ⟨(h.lf _ _).2 ⟨e, h2, rfl⟩, fun h4 => h3 ((h.sees (h.okx.has _ h2)).1 h4)⟩
  · have hk : ∀ z, hasC x.2 z = true → f z ≠ f d := fun z hz e => by
      have := (h.ctx (f d)).2 ⟨z, hz, e⟩
      rw [he] at this; cases this
    rw [aft_has' h.okx ha] at h1 h2
    rcases h1 with h1 | rfl <;> rcases h2 with h2 | rfl
    · exact h.inj _ _ h1 h2 h3
    · exact absurd h3 (hk _ h1)
    · exact absurd h3.symm (hk _ h2)
    · rfl
  · rw [aft_has' h.oky hb, h.ctx]
    constructor
    · rintro (⟨e, h1, h2⟩ | rfl)
      · exact ⟨e, (aft_has' h.okx ha _).2 (.inl h1), h2⟩
      · exact ⟨d, (aft_has' h.okx ha _).2 (.inr rfl), rfl⟩
    · rintro ⟨e, h1, h2⟩
      rcases (aft_has' h.okx ha _).1 h1 with h1 | rfl
      · exact .inl ⟨e, h1, h2⟩
      · exact .inr h2.symm
theorem RnK.read {f : Dt → Dt} {x y : Kn} (h : RnK f x y) (p : List ByteArray) (hz : x.1.sz ≤ 100) : readI x.1 p = readI y.1 p ∧ readV x.1 p = readV y.1 p := by
  have hx : x.1.right 5 = true := (right_iff h.okx.ord).2 h.okx.leaf
  have hy : y.1.right 5 = true := (right_iff h.oky.ord).2 h.oky.leaf
  have hI : readI x.1 p = readI y.1 p := by unfold readI; rw [hx, hy]
  refine ⟨hI, ?_⟩
  have h1 := getK_szle x.1 p
  have h2 := es_sz (getK x.1 p)
  unfold readV
  rw [hI, view_ren (h.lf.get h.okx.ord h.oky.ord p) (getK_right hx p) (getK_right hy p) (h.dotEs p) (by omega)]
end Go.Proofs.YtlapdmgjfdelnaaGreat

namespace Go.Proofs.YtlapdmgjfdelnaaGreat
open Go.RowKit
set_option maxRecDepth 100000

/-- One more change, named by the next name: how many, what it makes of all, and all that was made, joined. -/
def stpN (nm : Nat → Dt) (s : Nat × Kn × Kn) (o : Opr) : Nat × Kn × Kn := (s.1 + 1, aftK s.2.1 o (nm s.1), jn s.2.2 (appT s.2.1.1 o (nm s.1), appC s.2.1.1 o (nm s.1)))
def chS (nm : Nat → Dt) (g : Kn) (ops : List Opr) : Nat × Kn × Kn := ops.foldl (stpN nm) (0, g, kn0)
/-- Each change can be made. -/
def okTx (nm : Nat → Dt) (g : Kn) (ops : List Opr) : Prop := ∀ (k : Nat) o, ops[k]? = some o → appI (chS nm g (ops.take k)).2.1.1 o (nm k) = 0
theorem app_len {t : Tr} {o : Opr} {d : Dt} (h : appI t o d = 0) : (appC t o d).length ≤ 4 * (t.sz + 2) := by
  have e1 : appC t o d = ctxOf (d :: seesD t o) := by unfold appC; rw [if_pos h]
  have e2 : (ctxOf (d :: seesD t o)).length ≤ 4 * ((d :: seesD t o).length + 1) := ctxOfK_len _ 4
  have e3 := sees_len t o
  rw [e1]
  simp only [List.length_cons] at e2
  omega
structure ChI (nm : Nat → Dt) (g : Kn) (k : Nat) (s : Nat × Kn × Kn) : Prop where
  now : KOk s.2.1
  out : KOk s.2.2
  has : ∀ z, hasC s.2.1.2 z = true ↔ hasC g.2 z = true ∨ ∃ i, i < k ∧ z = nm i
  eq : jn g s.2.2 = s.2.1
  z1 : s.2.1.1.sz ≤ g.1.sz + 5 * k
  z2 : s.2.2.1.sz ≤ 5 * k
  l1 : s.2.1.2.length ≤ g.2.length + 500 * k
  l2 : s.2.2.2.length ≤ 500 * k
/-- The names within. -/
def txD (k : Nat) : Dt := ⟨0, 1099511627765 + (k : Int)⟩
def nmF (nm : Nat → Dt) (d : Dt) : Dt := if d.dc = 0 ∧ 1099511627765 ≤ d.n ∧ d.n ≤ 1099511627776 then nm (d.n - 1099511627765).toNat else d
end Go.Proofs.YtlapdmgjfdelnaaGreat

namespace Go.Proofs.YtlapdmgjfdelnaaGreat
open Go.RowKit
set_option maxRecDepth 100000

/-- A change lies in cells, its path in blocks that ok tells. -/
def OpA (w : World) (ok : Nat → Prop) (o : Opr) (cs : List Value) : Prop :=
  ∃ A c, cs = [.slice A o.path.length c, .int .i64 o.act, .string o.s, .int .i64 o.n] ∧ SlA w ok 1 StE (.slice A o.path.length c) o.path ∧ o.Ok
theorem OpA.mon : Emon OpA where
  up := fun hk ho ⟨A, c, h1, h2, h3⟩ => ⟨A, c, h1, h2.up hk ho fun _ _ _ h => h, h3⟩
  one := by rintro w ok x cs ⟨A, c, rfl, _⟩; simp [Value.oneCell']
theorem eiOp : ElemInfo Tryz.prog 84 67 4 56 := ElemInfo.mk (z := .agg #[.slice none 0 0, .int .i64 0, .string ByteArray.empty, .int .i64 0]) Tryz.underlying84 (by kernel_rfl) rfl
/-- A list of changes lies in memory. -/
def OpL (w : World) (v : Value) (l : List Opr) : Prop := SlP w w.heap.size 4 (OpA w (fun b => b < w.heap.size)) v l
theorem OpL.up {w w' : World} {v : Value} {l : List Opr} (h : OpL w v l) (hb : Below w.heap.size w w') : OpL w' v l :=
  SlP.imp h hb hb.size fun _ _ _ hx => OpA.mon.up (fun b hb' => hb.block b hb') (fun _ hb' => Nat.lt_of_lt_of_le hb' hb.size) hx
/-- One change of the list, in its cells. -/
theorem OpL.at {w : World} {A : Option Addr} {n : Nat} {l : List Opr} (h : OpL w (.slice A l.length n) l) {k : Nat} {x : Opr} (hx : l[k]? = some x) :
    ∃ b off A5 c5, A = some ⟨b, off, none⟩ ∧ b < w.heap.size ∧ SlP w w.heap.size 1 StE (.slice A5 x.path.length c5) x.path ∧ x.Ok ∧
      ∀ W : World, W.heap[b]? = w.heap[b]? → (W.cell? ⟨b, off + k * 4, none⟩ = some (.slice A5 x.path.length c5) ∧ W.cell? ⟨b, off + k * 4 + 1, none⟩ = some (.int .i64 x.act) ∧ W.cell? ⟨b, off + k * 4 + 2, none⟩ = some (.string x.s) ∧ W.cell? ⟨b, off + k * 4 + 3, none⟩ = some (.int .i64 x.n)) := by
  obtain ⟨A', n', hv, _, _, h3⟩ := h
  cases hv
  obtain ⟨b, off, rfl, hb, hc⟩ := h3 (by rintro rfl; simp at hx)
  obtain ⟨cs, ⟨A5, c5, rfl, hp, ho⟩, _, hu⟩ := hc k x hx
  have e : ∀ W : World, W.heap[b]? = w.heap[b]? → ∀ o, W.cell? ⟨b, o, none⟩ = w.cell? ⟨b, o, none⟩ := fun W hW o => World.cell?_of_block hW
  exact ⟨b, off, A5, c5, rfl, hb, hp, ho, fun W hW => ⟨(e W hW _).trans (hu 0 _ rfl), (e W hW _).trans (hu 1 _ rfl), (e W hW _).trans (hu 2 _ rfl), (e W hW _).trans (hu 3 _ rfl)⟩⟩

def txCells (v : Nat → V3) (vo : Value) : Array Value := #[(v 0).1, (v 0).2.1, (v 0).2.2, (v 1).1, (v 1).2.1, (v 1).2.2, vo]
/-- Blocks that a go's parts lie in. -/
def okGo (w : World) (g : Nat) (vo : Value) (okp : Nat → Prop) (b : Nat) : Prop := okp b ∧ b ≠ g ∧ b < w.heap.size ∧ vo.ownBlock ≠ some b
/-- A go's box. -/
structure TxB (w : World) (g : Nat) (okp : Nat → Prop) (v : Nat → V3) (vo : Value) (G N : Kn) (ops : List Opr) : Prop where
  box : w.heap[g]? = some (.cells (txCells v vo) 148 (0, 0))
  tg : G.1.rda w (okGo w g vo okp) (v 0).1 (v 0).2.1
  cg : SlA w (okGo w g vo okp) 3 SpE (v 0).2.2 G.2
  tn : N.1.rda w (okGo w g vo okp) (v 1).1 (v 1).2.1
  cn : SlA w (okGo w g vo okp) 3 SpE (v 1).2.2 N.2
  own : OwnD w (g + 1) 67 4 OpA (fun b => okp b ∧ b ≠ g) vo ops
  ob : ∀ b, vo.ownBlock = some b → okp b
section
variable {w w' : World} {g : Nat} {okp okq : Nat → Prop} {v : Nat → V3} {vo : Value} {G N : Kn} {ops : List Opr}
theorem TxB.lt (h : TxB w g okp v vo G N ops) : g < w.heap.size := lt_of_block h.box
theorem TxB.keep (h : TxB w g okp v vo G N ops) (hk : ∀ b, (okp b ∨ b = g) → b < w.heap.size → w'.heap[b]? = w.heap[b]?) (hs : w.heap.size ≤ w'.heap.size) (ho : ∀ b, okp b → b < w.heap.size → okq b) : TxB w' g okq v vo G N ops := by
  have k1 : Keeps (okGo w g vo okp) w w' := fun b hb => hk b (.inl hb.1) hb.2.2.1
  have k2 : ∀ b, okGo w g vo okp b → okGo w' g vo okq b := fun b hb => ⟨ho b hb.1 hb.2.2.1, hb.2.1, Nat.lt_of_lt_of_le hb.2.2.1 hs, hb.2.2.2⟩
  refine ⟨(hk g (.inr rfl) h.lt).trans h.box, rda_up k1 k2 _ _ _ h.tg, h.cg.up k1 k2 fun _ _ _ h => h, rda_up k1 k2 _ _ _ h.tn, h.cn.up k1 k2 fun _ _ _ h => h, ?_, fun b hb => ho b (h.ob b hb) (OwnD.lt h.own b hb).2⟩
  have h1 := OwnP.keep (w' := w') h.own fun q hq => hk q (.inl (h.ob q hq)) (OwnD.lt h.own q hq).2
  exact h1.imp fun x _ cs hx => OpA.mon.up (fun b hb => hk b (.inl hb.1.1) hb.2.1) (fun b hb => ⟨⟨ho b hb.1.1 hb.2.1, hb.1.2⟩, Nat.lt_of_lt_of_le hb.2.1 hs, hb.2.2⟩) hx
theorem TxB.grow (h : TxB w g okp v vo G N ops) (hb : Below w.heap.size w w') : TxB w' g okp v vo G N ops := h.keep (fun b _ hl => hb.block b hl) hb.size fun _ h _ => h
theorem TxB.rdN (h : TxB w g okp v vo G N ops) : N.1.rd w w.heap.size (v 1).1 (v 1).2.1 := rda_rd h.tn (fun _ hb => hb.2.2.1) (Below.refl _ _)
theorem TxB.slN (h : TxB w g okp v vo G N ops) : SlP w w.heap.size 3 SpE (v 1).2.2 N.2 := h.cn.slp (fun _ hb => hb.2.2.1) (Below.refl _ _)
theorem TxB.cells (h : TxB w g okp v vo G N ops) : w.cell? ⟨g, 0, none⟩ = some (v 0).1 ∧ w.cell? ⟨g, 1, none⟩ = some (v 0).2.1 ∧ w.cell? ⟨g, 2, none⟩ = some (v 0).2.2 ∧ w.cell? ⟨g, 3, none⟩ = some (v 1).1 ∧ w.cell? ⟨g, 4, none⟩ = some (v 1).2.1 ∧ w.cell? ⟨g, 5, none⟩ = some (v 1).2.2 ∧ w.cell? ⟨g, 6, none⟩ = some vo := by
  have hb := h.box
  unfold txCells at hb
  exact ⟨cell_cells (i := 0) hb, cell_cells (i := 1) hb, cell_cells (i := 2) hb, cell_cells (i := 3) hb, cell_cells (i := 4) hb, cell_cells (i := 5) hb, cell_cells (i := 6) hb⟩
theorem TxB.frz (h : TxB w g okp v vo G N ops) (o : Nat) : w.frozen? ⟨g, o, none⟩ = false := cells_frz h.box
theorem tx_set {e : TypeId} (h : w.heap[g]? = some (.cells (txCells v vo) e (0, 0))) (a b c d : Value) :
    ((((w.setCell ⟨g, 3, none⟩ a).setCell ⟨g, 4, none⟩ b).setCell ⟨g, 5, none⟩ c).setCell ⟨g, 6, none⟩ d).heap[g]? = some (.cells (txCells (fun i => if i = 1 then (a, b, c) else v i) d) e (0, 0)) := by
  have h1 := cells_set (i := 3) h a
  have h2 := cells_set (i := 4) h1 b
  have h3 := cells_set (i := 5) h2 c
  have h4 := cells_set (i := 6) h3 d
  rw [h4]
  simp [txCells]
/-- A change was made: what there is now, and the list of changes, are laid into the box. -/
theorem TxB.set (h : TxB w g okp v vo G N ops) {vo' a b c : Value} {N' : Kn} {ops' : List Opr} (hg : w'.heap[g]? = w.heap[g]?) (hk : ∀ b, b < w.heap.size → b ≠ g → vo.ownBlock ≠ some b → w'.heap[b]? = w.heap[b]?) (hs : w.heap.size ≤ w'.heap.size)
    (hv : vo'.ownBlock = vo.ownBlock ∨ ∃ b, vo'.ownBlock = some b ∧ w.heap.size ≤ b) (hr : N'.1.rda w' (fun b => w.heap.size ≤ b ∧ b < w'.heap.size ∧ vo'.ownBlock ≠ some b) a b) (hc : SlA w' (fun b => w.heap.size ≤ b ∧ b < w'.heap.size ∧ vo'.ownBlock ≠ some b) 3 SpE c N'.2)
    (hown : OwnD w' (g + 1) 67 4 OpA (fun b => (okp b ∨ w.heap.size ≤ b) ∧ b ≠ g) vo' ops') :
    TxB ((((w'.setCell ⟨g, 3, none⟩ a).setCell ⟨g, 4, none⟩ b).setCell ⟨g, 5, none⟩ c).setCell ⟨g, 6, none⟩ vo') g (fun b => okp b ∨ w.heap.size ≤ b) (fun i => if i = 1 then (a, b, c) else v i) vo' G N' ops' := by
  have hgl := h.lt
  have hK : ∀ k, k ≠ g → ((((w'.setCell ⟨g, 3, none⟩ a).setCell ⟨g, 4, none⟩ b).setCell ⟨g, 5, none⟩ c).setCell ⟨g, 6, none⟩ vo').heap[k]? = w'.heap[k]? := fun k hk => (Below.heap_setCell _ _ _ _ hk).trans ((Below.heap_setCell _ _ _ _ hk).trans ((Below.heap_setCell _ _ _ _ hk).trans (Below.heap_setCell _ _ _ _ hk)))
  have hS : ((((w'.setCell ⟨g, 3, none⟩ a).setCell ⟨g, 4, none⟩ b).setCell ⟨g, 5, none⟩ c).setCell ⟨g, 6, none⟩ vo').heap.size = w'.heap.size := by simp [World.setCell]
  have hv1 : ∀ b, b < w.heap.size → vo.ownBlock ≠ some b → vo'.ownBlock ≠ some b := fun b hb hn => by
    rcases hv with e | ⟨q, e, hq⟩
    · rw [e]; exact hn
    · rw [e]; intro e; cases e; omega
  have k1 : ∀ k, okGo w g vo okp k → ((((w'.setCell ⟨g, 3, none⟩ a).setCell ⟨g, 4, none⟩ b).setCell ⟨g, 5, none⟩ c).setCell ⟨g, 6, none⟩ vo').heap[k]? = w.heap[k]? := fun k hq => (hK k hq.2.1).trans (hk k hq.2.2.1 hq.2.1 hq.2.2.2)
  have k2 : ∀ k, okGo w g vo okp k → okGo ((((w'.setCell ⟨g, 3, none⟩ a).setCell ⟨g, 4, none⟩ b).setCell ⟨g, 5, none⟩ c).setCell ⟨g, 6, none⟩ vo') g vo' (fun b => okp b ∨ w.heap.size ≤ b) k := fun k hq => ⟨.inl hq.1, hq.2.1, by rw [hS]; exact Nat.lt_of_lt_of_le hq.2.2.1 hs, hv1 k hq.2.2.1 hq.2.2.2⟩
  have n1 : ∀ k, (w.heap.size ≤ k ∧ k < w'.heap.size ∧ vo'.ownBlock ≠ some k) → ((((w'.setCell ⟨g, 3, none⟩ a).setCell ⟨g, 4, none⟩ b).setCell ⟨g, 5, none⟩ c).setCell ⟨g, 6, none⟩ vo').heap[k]? = w'.heap[k]? := fun k hq => hK k (by omega)
  have n2 : ∀ k, (w.heap.size ≤ k ∧ k < w'.heap.size ∧ vo'.ownBlock ≠ some k) → okGo ((((w'.setCell ⟨g, 3, none⟩ a).setCell ⟨g, 4, none⟩ b).setCell ⟨g, 5, none⟩ c).setCell ⟨g, 6, none⟩ vo') g vo' (fun b => okp b ∨ w.heap.size ≤ b) k := fun k hq => ⟨.inr hq.1, by omega, by rw [hS]; exact hq.2.1, hq.2.2⟩
  refine ⟨tx_set (hg.trans h.box) a b c vo', ?_, ?_, ?_, ?_, ?_, ?_⟩
  · simp only [Nat.zero_ne_one, if_false]; exact rda_up k1 k2 _ _ _ h.tg
  · simp only [Nat.zero_ne_one, if_false]; exact h.cg.up k1 k2 fun _ _ _ h => h
  · simp only [if_true]; exact rda_up n1 n2 _ _ _ hr
  · simp only [if_true]; exact hc.up n1 n2 fun _ _ _ h => h
  · have h1 := OwnP.keep (w' := ((((w'.setCell ⟨g, 3, none⟩ a).setCell ⟨g, 4, none⟩ b).setCell ⟨g, 5, none⟩ c).setCell ⟨g, 6, none⟩ vo')) hown fun q hq => hK q (by have := (OwnD.lt hown q hq).1; omega)
    exact h1.imp fun x _ cs hx => OpA.mon.up (fun k hk => hK k hk.1.2) (fun k hk => ⟨hk.1, by rw [hS]; exact hk.2.1, hk.2.2⟩) hx
  · intro q hq
    rcases hv with e | ⟨q', e, hq'⟩
    · exact .inl (h.ob q (e ▸ hq))
    · rw [e] at hq; cases hq; exact .inr hq'
end
end Go.Proofs.YtlapdmgjfdelnaaGreat

namespace Go.Proofs.YtlapdmgjfdelnaaGreat
open Go.RowKit
set_option maxRecDepth 100000

def mxI (p q : Int) : Int := max p q
def mnI (p q : Int) : Int := min p q
/-- What is in both. -/
def meetL : List (Int × Int) → List (Int × Int) → List (Int × Int)
  | x :: a, y :: b => (if mxI x.1 y.1 ≤ mnI x.2 y.2 then [(mxI x.1 y.1, mnI x.2 y.2)] else []) ++ (if x.2 < y.2 then meetL a (y :: b) else meetL (x :: a) b)
  | [], _ => []
  | _ :: _, [] => []
termination_by a b => a.length + b.length
theorem meetL_nil (b : List (Int × Int)) : meetL [] b = [] := by unfold meetL; rfl
theorem meetL_nil' (a : List (Int × Int)) : meetL a [] = [] := by cases a <;> (unfold meetL; rfl)
theorem meetL_cons (x y : Int × Int) (a b : List (Int × Int)) : meetL (x :: a) (y :: b) = (if mxI x.1 y.1 ≤ mnI x.2 y.2 then [(mxI x.1 y.1, mnI x.2 y.2)] else []) ++ (if x.2 < y.2 then meetL a (y :: b) else meetL (x :: a) b) := by rw [meetL]
theorem mx_le {p q n : Int} : mxI p q ≤ n ↔ p ≤ n ∧ q ≤ n := by unfold mxI; omega
theorem le_mn {p q n : Int} : n ≤ mnI p q ↔ n ≤ p ∧ n ≤ q := by unfold mnI; omega
theorem has_meet (n : Int) : ∀ (m : Nat) (a b : List (Int × Int)) (p q : Option Int), a.length + b.length ≤ m → runsR p a = true → runsR q b = true → hasL (meetL a b) n = (hasL a n && hasL b n)
  | _, [], b, _, _, _, _, _ => by rw [meetL_nil]; simp [hasL]
  | _, x :: a, [], _, _, _, _, _ => by rw [meetL_nil']; simp [hasL]
  | 0, x :: a, y :: b, _, _, h, _, _ => by simp at h
  | m + 1, x :: a, y :: b, p, q, h, ha, hb => by
    have ha' := (runsR_iff _ _ _).1 ha
    have hb' := (runsR_iff _ _ _).1 hb
    obtain ⟨hx, _, hal⟩ := ha'
    obtain ⟨hy, _, hbl⟩ := hb'
    unfold runOk at hx hy
    have g1 := runs_gt' a x.2 n hal
    have g2 := runs_gt' b y.2 n hbl
    simp only [List.length_cons] at h
    rw [meetL_cons, hasL_app']
    have hhd : hasL (if mxI x.1 y.1 ≤ mnI x.2 y.2 then [(mxI x.1 y.1, mnI x.2 y.2)] else []) n = (inR x n && inR y n) := by
      have h1 : hasL (if mxI x.1 y.1 ≤ mnI x.2 y.2 then [(mxI x.1 y.1, mnI x.2 y.2)] else []) n = (decide (mxI x.1 y.1 ≤ mnI x.2 y.2) && inR (mxI x.1 y.1, mnI x.2 y.2) n) := by
        split <;> rename_i hc <;> simp [hasL, hc]
      rw [h1, Bool.eq_iff_iff]
      simp only [Bool.and_eq_true, decide_eq_true_eq, inR, mx_le, le_mn]
      omega
    rw [hhd, hasL_cons, hasL_cons]
    split
    · rename_i hlt
      have g3 : inR x n = true → hasL b n = true → False := fun h1 h2 => by
        have := g2 h2
        simp only [inR, Bool.and_eq_true, decide_eq_true_eq] at h1
        omega
      rw [has_meet n m a (y :: b) _ _ (by simp; omega) hal hb, hasL_cons]
      cases e1 : inR x n <;> cases e2 : inR y n <;> cases e3 : hasL a n <;> cases e4 : hasL b n <;> first | rfl | exact absurd (g3 e1 e4) not_false
    · rename_i hlt
      have g3 : inR y n = true → hasL a n = true → False := fun h1 h2 => by
        have := g1 h2
        simp only [inR, Bool.and_eq_true, decide_eq_true_eq] at h1
        omega
      rw [has_meet n m (x :: a) b _ _ (by simp; omega) ha hbl, hasL_cons]
      cases e1 : inR x n <;> cases e2 : inR y n <;> cases e3 : hasL a n <;> cases e4 : hasL b n <;> first | rfl | exact absurd (g3 e2 e3) not_false
theorem meet_runs : ∀ (m : Nat) (a b : List (Int × Int)) (p q r : Option Int), a.length + b.length ≤ m → runsR p a = true → runsR q b = true → (runsR r a = true ∨ runsR r b = true) → runsR r (meetL a b) = true
  | _, [], b, _, _, r, _, _, _, _ => by rw [meetL_nil]; cases r <;> rfl
  | _, x :: a, [], _, _, r, _, _, _, _ => by rw [meetL_nil']; cases r <;> rfl
  | 0, x :: a, y :: b, _, _, _, h, _, _, _ => by simp at h
  | m + 1, x :: a, y :: b, p, q, r, h, ha, hb, hr => by
    obtain ⟨hx, _, hal⟩ := (runsR_iff _ _ _).1 ha
    obtain ⟨hy, _, hbl⟩ := (runsR_iff _ _ _).1 hb
    unfold runOk at hx hy
    simp only [List.length_cons] at h
    rw [meetL_cons]
    have hrest : ∀ z : Option Int, (runsR z (x :: a) = true ∨ runsR z (y :: b) = true ∨ (z = some (mnI x.2 y.2))) → runsR z (if x.2 < y.2 then meetL a (y :: b) else meetL (x :: a) b) = true := fun z hz => by
      split
      · rename_i hlt
        refine meet_runs m a (y :: b) _ _ z (by simp; omega) hal hb ?_
        rcases hz with hz | hz | hz
        · refine .inl (runs_wk hal z fun q' e => ?_)
          subst e
          have := ((runsR_iff _ _ _).1 hz).2.1
          simp only [okR, decide_eq_true_eq] at this; omega
        · exact .inr hz
        · subst hz
          refine .inl ?_
          have e : mnI x.2 y.2 = x.2 := by unfold mnI; omega
          rw [e]; exact hal
      · rename_i hlt
        refine meet_runs m (x :: a) b _ _ z (by simp; omega) ha hbl ?_
        rcases hz with hz | hz | hz
        · exact .inl hz
        · refine .inr (runs_wk hbl z fun q' e => ?_)
          subst e
          have := ((runsR_iff _ _ _).1 hz).2.1
          simp only [okR, decide_eq_true_eq] at this; omega
        · subst hz
          refine .inr ?_
          have e : mnI x.2 y.2 = y.2 := by unfold mnI; omega
          rw [e]; exact hbl
    split
    · rename_i hle
      rw [List.singleton_append, runsR_iff]
      have hok : ∀ z : Option Int, r = z → okR z (mxI x.1 y.1) = true := fun z e => by
        cases z with
        | none => rfl
        | some z =>
          subst e
          simp only [okR, decide_eq_true_eq]
          unfold mxI
          rcases hr with hr | hr
          · have := ((runsR_iff _ _ _).1 hr).2.1
            simp only [okR, decide_eq_true_eq] at this
            omega
          · have := ((runsR_iff _ _ _).1 hr).2.1
            simp only [okR, decide_eq_true_eq] at this
            omega
      refine ⟨?_, hok r rfl, hrest _ (.inr (.inr rfl))⟩
      unfold runOk mxI mnI
      unfold mxI mnI at hle
      simp only
      exact ⟨by omega, hle, by omega⟩
    · rw [List.nil_append]
      refine hrest r ?_
      rcases hr with hr | hr
      · exact .inl hr
      · exact .inr (.inl hr)
theorem meet_by {a b : List (Int × Int)} (ha : runsR none a = true) (hb : runsR none b = true) : meetL a b = byL a b 1 := by
  have h := byL_right (a := a) (b := b) 1 (runs_ok' a none ha) (runs_ok' b none hb)
  refine runs_eq _ _ none none (meet_runs _ a b none none none (Nat.le_refl _) ha hb (.inl ha)) h.1 fun n => ?_
  rw [has_meet n _ a b none none (Nat.le_refl _) ha hb, h.2 n]
  simp [inn]
theorem meet_drop {a b : List (Int × Int)} {i k : Nat} {x y : Int × Int} (hx : a[i]? = some x) (hy : b[k]? = some y) : meetL (a.drop i) (b.drop k) = (if mxI x.1 y.1 ≤ mnI x.2 y.2 then [(mxI x.1 y.1, mnI x.2 y.2)] else []) ++ (if x.2 < y.2 then meetL (a.drop (i + 1)) (b.drop k) else meetL (a.drop i) (b.drop (k + 1))) := by
  rw [drop_cons hx, drop_cons hy, meetL_cons]
set_option maxHeartbeats 4000000 in
theorem smeet_any (a b : List (Int × Int)) (va vb : Value) (w : World) (ha : SlP w w.heap.size 2 RuE va a) (hb : SlP w w.heap.size 2 RuE vb b) (hra : runsR none a = true) (hrb : runsR none b = true) (hN : (meetL a b).length ≤ 900000) :
    Calls Tryz.prog 156 #[va, vb] w (RetO w 201 2 (fun _ => RuE) (meetL a b)) := by
  have HA := hid ha
  have HB := hid hb
  have HRA := hid hra
  have HRB := hid hrb
  obtain ⟨A1, c1, rfl, a1, a2, a3⟩ := ha
  obtain ⟨A2, c2, rfl, b1, b2, b3⟩ := hb
  unfold Big at a2 b2
  clear hra hrb
  go_enter Tryz.func156, Tryz.ntmps156
  go_wp2_with fail
  refine (sboth_any a b _ _ w HA.out HB.out).mono ?_
  rw [HRA.out, HRB.out]
  rintro e w1 ⟨rfl, hb1⟩
  have hs1 := hb1.size
  go_wp2_with fail
  go_loopw [5, 6, 7] (fun v i k wr => ∃ (p q : Nat) (os : List (Int × Int)), p ≤ a.length ∧ q ≤ b.length ∧ i = .int .i64 p ∧ k = .int .i64 q ∧ OwnP wr w1.heap.size 201 2 RuE v os ∧ Hid (os ++ meetL (a.drop p) (b.drop q) = meetL a b) ∧ Below w1.heap.size w1 wr) (fun _ i k _ => (a.length - (intOf i).toNat) + (b.length - (intOf k).toNat))
  case atStart => exact ⟨0, 0, [], Nat.zero_le _, Nat.zero_le _, rfl, rfl, OwnP.nil, by unfold Hid; simp, Below.refl _ _⟩
  case round =>
    obtain ⟨p, q, os, hp, hq, rfl, rfl, hown, HOS, hbr⟩ := hrel
    have hsz := hbr.size
    have hB0 : Below w.heap.size w wr := hb1.trans (hbr.mono hs1)
    by_cases hlp : p < a.length
    case neg =>
      have e1 : p = a.length := by omega
      have hend : os = meetL a b := by
        have h := HOS.out
        rw [e1, List.drop_length, meetL_nil, List.append_nil] at h; exact h
      have HEN := hid hend
      have hi1 : ¬ ((p : Int) < (a.length : Int)) := by omega
      clear hend
      go_wp2_with fail
      go_ret
      exact ⟨_, rfl, by rw [← HEN.out]; exact hown.mono hs1, hB0⟩
    by_cases hlq : q < b.length
    case neg =>
      have e1 : q = b.length := by omega
      have hend : os = meetL a b := by
        have h := HOS.out
        rw [e1, List.drop_length, meetL_nil', List.append_nil] at h; exact h
      have HEN := hid hend
      have hi1 : ((p : Int) < (a.length : Int)) := by omega
      have hi2 : ¬ ((q : Int) < (b.length : Int)) := by omega
      clear hend
      go_wp2_with fail
      go_ret
      exact ⟨_, rfl, by rw [← HEN.out]; exact hown.mono hs1, hB0⟩
    obtain ⟨x, hx⟩ : ∃ x, a[p]? = some x := ⟨_, List.getElem?_eq_getElem hlp⟩
    obtain ⟨y, hy⟩ : ∃ y, b[q]? = some y := ⟨_, List.getElem?_eq_getElem hlq⟩
    obtain ⟨ba, oa, rfl, hbA, hc⟩ := a3 (by rintro rfl; simp at hlp)
    obtain ⟨bb, ob, rfl, hbB, hd⟩ := b3 (by rintro rfl; simp at hlq)
    obtain ⟨cs, ⟨rfl, hok⟩, _, hu⟩ := hc p _ hx
    obtain ⟨ds, ⟨rfl, hok2⟩, _, hv⟩ := hd q _ hy
    have e0 : wr.cell? ⟨ba, oa + p * 2, none⟩ = some (.int .i64 x.1) := (hB0.cell hbA).trans (hu 0 _ rfl)
    have e1 : wr.cell? ⟨ba, oa + p * 2 + 1, none⟩ = some (.int .i64 x.2) := (hB0.cell hbA).trans (hu 1 _ rfl)
    have f0 : wr.cell? ⟨bb, ob + q * 2, none⟩ = some (.int .i64 y.1) := (hB0.cell hbB).trans (hv 0 _ rfl)
    have f1 : wr.cell? ⟨bb, ob + q * 2 + 1, none⟩ = some (.int .i64 y.2) := (hB0.cell hbB).trans (hv 1 _ rfl)
    have hi1 : ((p : Int)) < (a.length : Int) := by omega
    have hi2 : ((q : Int)) < (b.length : Int) := by omega
    have hstep := meet_drop hx hy
    have hx1 : I64 x.1 := hok.1
    have hx2 : I64 x.2 := hok.2
    have hy1 : I64 y.1 := hok2.1
    have hy2 : I64 y.2 := hok2.2
    have HTL : Hid (∀ os' : List (Int × Int), os' = os ++ (if mxI x.1 y.1 ≤ mnI x.2 y.2 then [(mxI x.1 y.1, mnI x.2 y.2)] else []) → os' ++ (if x.2 < y.2 then meetL (a.drop (p + 1)) (b.drop q) else meetL (a.drop p) (b.drop (q + 1))) = meetL a b) := fun os' e => by
      rw [e, List.append_assoc, ← hstep]; exact HOS.out
    clear hu hv hc hd a3 b3 hx hy hok hok2 hstep HOS
    unfold I64 at hx1 hx2 hy1 hy2
    by_cases hle : mxI x.1 y.1 ≤ mnI x.2 y.2
    · rw [if_pos hle] at HTL
      have hle2 : max x.1 y.1 ≤ min x.2 y.2 := hle
      have HRE : Hid (RuE (mxI x.1 y.1, mnI x.2 y.2) [.int .i64 (max x.1 y.1), .int .i64 (min x.2 y.2)]) := ⟨rfl, by show I64 (mxI x.1 y.1); unfold mxI I64; omega, by show I64 (mnI x.2 y.2); unfold mnI I64; omega⟩
      have HL : Hid (os.length + [((mxI x.1 y.1, mnI x.2 y.2) : Int × Int)].length ≤ Few) := by
        have h := congrArg List.length (HTL.out _ rfl)
        unfold Hid Few; simp at h ⊢; omega
      have HBR := hid hbr
      have HCE : Hid (∀ W, Below w1.heap.size wr W → (W.cell? ⟨ba, oa + p * 2 + 1, none⟩ = some (.int .i64 x.2) ∧ W.cell? ⟨bb, ob + q * 2 + 1, none⟩ = some (.int .i64 y.2))) := fun W hW => ⟨(hW.cell (p := ⟨ba, oa + p * 2 + 1, none⟩) (Nat.lt_of_lt_of_le hbA hs1)).trans e1, (hW.cell (p := ⟨bb, ob + q * 2 + 1, none⟩) (Nat.lt_of_lt_of_le hbB hs1)).trans f1⟩
      clear hle
      go_wp2_with fail
      go_quiet (fail)
      go_wp2_with (at_builtin; go_loud (refine wpList_few rfl (.tmp 49) (.tmp 53) _ rfl eiRun (by decide) (by decide) (fun _ _ h => h.one) rfl ((hown.drewN _).alloc _) rfl (SlP.one (x := (mxI x.1 y.1, mnI x.2 y.2)) HRE.out rfl _ (by rw [World.heap_drewN])) HL.out (by rw [World.size_alloc, World.heap_drewN]; omega) ?_); intro v1 w4 hown4 hb4 _)
      have hb5 : Below w1.heap.size wr w4 := ((below_dn (Below.refl w1.heap.size wr) _).alloc (by rw [World.heap_drewN]; omega) _).trans hb4
      have HB5 := hid hb5
      have hs5 := hb5.size
      clear e0 e1 f0 f1
      obtain ⟨e1, f1⟩ := HCE.out _ hb5
      clear hb4 hb5
      by_cases hxy : x.2 < y.2
      · rw [if_pos hxy] at HTL
        go_wp2_with fail
        go_quiet (fail)
        go_wp2_with fail
        go_roundw
        case rel => exact ⟨p + 1, q, _, by omega, hq, by go_num, by go_num, hown4.drewN _, HTL.out _ rfl, below_dn (HBR.out.trans HB5.out) _⟩
        case measure => simp [intOf]; omega
      · rw [if_neg hxy] at HTL
        go_wp2_with fail
        go_quiet (fail)
        go_wp2_with fail
        go_roundw
        case rel => exact ⟨p, q + 1, _, hp, by omega, by go_num, by go_num, hown4.drewN _, HTL.out _ rfl, below_dn (HBR.out.trans HB5.out) _⟩
        case measure => simp [intOf]; omega
    · rw [if_neg hle] at HTL
      have hle2 : ¬ max x.1 y.1 ≤ min x.2 y.2 := hle
      have hle3 : min x.2 y.2 < max x.1 y.1 := by omega
      have HBR := hid hbr
      clear hle
      by_cases hxy : x.2 < y.2
      · rw [if_pos hxy] at HTL
        go_wp2_with fail
        go_quiet (fail)
        go_wp2_with fail
        go_quiet (fail)
        go_wp2_with fail
        go_roundw
        case rel => exact ⟨p + 1, q, os, by omega, hq, by go_num, by go_num, hown.drewN _, HTL.out _ (List.append_nil _).symm, below_dn HBR.out _⟩
        case measure => simp [intOf]; omega
      · rw [if_neg hxy] at HTL
        go_wp2_with fail
        go_quiet (fail)
        go_wp2_with fail
        go_quiet (fail)
        go_wp2_with fail
        go_roundw
        case rel => exact ⟨p, q + 1, os, hp, by omega, by go_num, by go_num, hown.drewN _, HTL.out _ (List.append_nil _).symm, below_dn HBR.out _⟩
        case measure => simp [intOf]; omega
theorem meetL_len {a b : List (Int × Int)} (ha : runsR none a = true) (hb : runsR none b = true) : (meetL a b).length ≤ 2 * a.length + 2 * b.length + 1 := by rw [meet_by ha hb]; exact byL_len a b 1
theorem meet_rule : RuleRun 156 1 :=
  ⟨enters_of Tryz.func156 (by kernel_rfl) rfl, fun a b va vb W ha hb hra hrb hN hN' => by
    rw [← meet_by hra hrb]
    exact smeet_any a b va vb W ha hb hra hrb (by have := meetL_len hra hrb; omega)⟩
theorem cmeet_any (a b : List Sp) (va vb : Value) (w : World) (ha : SlP w w.heap.size 3 SpE va a) (hb : SlP w w.heap.size 3 SpE vb b) (hra : apartB a = true) (hrb : apartB b = true) (hN : a.length ≤ 20000) (hN' : b.length ≤ 20000) :
    Calls Tryz.prog 106 #[va, vb] w (RetO w 45 3 (fun _ => SpE) (ctxBy a b 1)) := by
  go_enter Tryz.func106, Tryz.ntmps106
  go_wp2_with fail
  refine (cby_any a b 1 _ meet_rule va vb w ha hb hra hrb hN hN').mono ?_
  rintro e w1 ⟨v, rfl, h⟩
  go_wp2_with fail
  go_ret
  exact ⟨v, rfl, h⟩
end Go.Proofs.YtlapdmgjfdelnaaGreat

namespace Go.Proofs.YtlapdmgjfdelnaaGreat
open Go.RowKit
set_option maxRecDepth 100000

theorem ctx_some {c : List Sp} (h : apartB c = true) : 0 < c.length ↔ ∃ d, hasC c d = true := by
  constructor
  · intro hl
    obtain ⟨s, hs⟩ : ∃ s, s ∈ c := by
      rcases c with _ | ⟨s, c⟩
      · simp at hl
      · exact ⟨s, by simp⟩
    have hd := apart_dcs c 0 (by unfold apartB at h; simp at h; exact h.1) s hs
    obtain ⟨i, hi⟩ : ∃ i : Nat, (i : Int) = s.dc := ⟨s.dc.toNat, by omega⟩
    have hm : (s.fr, s.hi) ∈ partL c (i : Int) := by
      unfold partL
      exact List.mem_map.2 ⟨s, List.mem_filter.2 ⟨hs, by simp [hi]⟩, rfl⟩
    have hr := apart_ok h (i := i) (by omega) _ hm
    unfold runOk at hr
    simp only at hr
    refine ⟨⟨s.dc, s.fr⟩, ?_⟩
    unfold hasC
    rw [Bool.and_eq_true]
    refine ⟨?_, ?_⟩
    · unfold Dt.right; rw [decide_eq_true_eq]; simp only; omega
    · simp only
      rw [← hi]
      unfold hasL
      rw [List.any_eq_true]
      exact ⟨_, hm, by unfold inR; simp only [Bool.and_eq_true, decide_eq_true_eq]; omega⟩
  · rintro ⟨d, hd⟩
    rcases c with _ | ⟨s, c⟩
    · unfold hasC at hd; simp [partL, hasL] at hd
    · simp
theorem rng_part (dc fr hi x : Int) : partL [⟨dc, fr, hi⟩] x = if dc = x then [(fr, hi)] else [] := partL_spans [(fr, hi)] dc x
theorem rng_apart {dc fr hi : Int} (h1 : Dt.right ⟨dc, fr⟩ = true) (h2 : Dt.right ⟨dc, hi⟩ = true) (h3 : fr ≤ hi) : apartB [⟨dc, fr, hi⟩] = true := by
  unfold Dt.right at h1 h2
  rw [decide_eq_true_eq] at h1 h2
  simp only at h1 h2
  unfold apartB
  rw [Bool.and_eq_true]
  refine ⟨?_, ?_⟩
  · simp [dcsOk]; omega
  · rw [List.all_eq_true]
    intro i _
    rw [rng_part]
    split
    · rw [runsR_iff]; unfold runOk; simp only; exact ⟨by omega, rfl, rfl⟩
    · rfl
theorem rng_has (dc fr hi : Int) (d : Dt) : hasC [⟨dc, fr, hi⟩] d = true ↔ d.right = true ∧ d.dc = dc ∧ fr ≤ d.n ∧ d.n ≤ hi := by
  unfold hasC
  rw [rng_part, Bool.and_eq_true]
  refine and_congr Iff.rfl ?_
  split
  · rename_i e
    simp [hasL, inR, e]
  · rename_i e
    simp only [hasL, List.any_nil, Bool.false_eq_true, false_iff]
    exact fun h => e h.1.symm
theorem meet_has {a b : List Sp} (ha : apartB a = true) (hb : apartB b = true) (d : Dt) : hasC (ctxBy a b 1) d = (hasC a d && hasC b d) := by
  cases hd : d.right
  · unfold hasC; simp [hd]
  · rw [hasC_by ha hb 1 hd]; rfl
/-- Does a context have one of a center's dots from a number on? -/
def someD (c : List Sp) (dc fr : Int) (n : Nat) : Bool := (List.range n).any fun k => hasC c ⟨dc, fr + (k : Int)⟩
theorem some_iff {c : List Sp} {dc fr : Int} {n : Nat} : someD c dc fr n = true ↔ ∃ k, k < n ∧ hasC c ⟨dc, fr + (k : Int)⟩ = true := by
  unfold someD
  rw [List.any_eq_true]
  simp [List.mem_range]
theorem meet_some {c : List Sp} (hc : apartB c = true) {dc fr : Int} {n : Nat} (h1 : Dt.right ⟨dc, fr⟩ = true) (h2 : Dt.right ⟨dc, fr + (n : Int) - 1⟩ = true) (hn : 1 ≤ n) : (0 < (ctxBy [⟨dc, fr, fr + (n : Int) - 1⟩] c 1).length ↔ someD c dc fr n = true) ∧ (0 < (ctxBy c [⟨dc, fr, fr + (n : Int) - 1⟩] 1).length ↔ someD c dc fr n = true) := by
  have hr := rng_apart h1 h2 (by omega)
  have hh : ∀ d : Dt, (hasC [⟨dc, fr, fr + (n : Int) - 1⟩] d = true ∧ hasC c d = true) → ∃ k, k < n ∧ hasC c ⟨dc, fr + (k : Int)⟩ = true := fun d h => by
    obtain ⟨_, e, e1, e2⟩ := (rng_has _ _ _ _).1 h.1
    refine ⟨(d.n - fr).toNat, by omega, ?_⟩
    have : (⟨dc, fr + ((d.n - fr).toNat : Int)⟩ : Dt) = d := by
      obtain ⟨a, b⟩ := d
      simp only at e e1 e2
      rw [← e, Dt.mk.injEq]
      exact ⟨rfl, by simp only; omega⟩
    rw [this]; exact h.2
  have hg : (∃ k, k < n ∧ hasC c ⟨dc, fr + (k : Int)⟩ = true) → ∃ d : Dt, hasC [⟨dc, fr, fr + (n : Int) - 1⟩] d = true ∧ hasC c d = true := fun ⟨k, hk, h⟩ =>
    ⟨_, (rng_has _ _ _ _).2 ⟨hasC_right h, rfl, by simp only; omega, by simp only; omega⟩, h⟩
  refine ⟨?_, ?_⟩
  · rw [ctx_some (apart_by hr hc 1), some_iff]
    constructor
    · rintro ⟨d, h⟩
      rw [meet_has hr hc, Bool.and_eq_true] at h
      exact hh d h
    · intro h
      obtain ⟨d, h⟩ := hg h
      exact ⟨d, by rw [meet_has hr hc, Bool.and_eq_true]; exact h⟩
  · rw [ctx_some (apart_by hc hr 1), some_iff]
    constructor
    · rintro ⟨d, h⟩
      rw [meet_has hc hr, Bool.and_eq_true] at h
      exact hh d ⟨h.2, h.1⟩
    · intro h
      obtain ⟨d, h⟩ := hg h
      exact ⟨d, by rw [meet_has hc hr, Bool.and_eq_true]; exact ⟨h.2, h.1⟩⟩
end Go.Proofs.YtlapdmgjfdelnaaGreat

namespace Go.Proofs.YtlapdmgjfdelnaaGreat
open Go.RowKit
set_option maxRecDepth 100000

set_option maxHeartbeats 2000000 in
theorem tCloneR_any (t : Tr) (ve vk : Value) (w : World) (h : t.rd w w.heap.size ve vk) (hr : t.right 5 = true) (hN : t.sz ≤ 900000) :
    Calls Tryz.prog 72 #[.agg #[ve, vk]] w (RetT w t) := by
  have HC : Hid (∀ w', Below w.heap.size w w' → t.rd w' w'.heap.size ve vk) := fun w' hb => rd_below hb hb.size _ _ _ h
  obtain ⟨A3, n3, A4, n4, rfl, rfl⟩ := rd_shape h
  have hb0 : Below w.heap.size w ((w.alloc (.cells #[.slice A3 t.es.length n3, .slice A4 t.ks.length n4] 25)).alloc (.cells #[.slice none 0 0, .slice none 0 0] 25)) := ((Below.refl _ w).alloc (Nat.le_refl _) _).alloc (by simp) _
  have HB0 := hid hb0
  have HW : Hid (∀ w', Below (w.heap.size + 2) ((w.alloc (.cells #[.slice A3 t.es.length n3, .slice A4 t.ks.length n4] 25)).alloc (.cells #[.slice none 0 0, .slice none 0 0] 25)) w' → Below w.heap.size w w' ∧ w.heap.size + 2 ≤ w'.heap.size ∧ w'.heap[w.heap.size]? = some (.cells #[.slice A3 t.es.length n3, .slice A4 t.ks.length n4] 25 (0, 0)) ∧ w'.heap[w.heap.size + 1]? = some (.cells #[.slice none 0 0, .slice none 0 0] 25 (0, 0))) := fun w' hb => by
    have hB : Below w.heap.size w w' := HB0.out.trans (hb.mono (by omega))
    exact ⟨hB, by have := hb.size; simpa using this, (hb.block _ (by omega)).trans ((heap_old (by simp)).trans (heap_new rfl)), (hb.block _ (by omega)).trans (heap_new (by simp))⟩
  have HR := hid hr
  clear h hr hb0
  go_enter Tryz.func72, Tryz.ntmps72
  go_wp2_with fail
  refine (tRight_any t _ _ _ (HC.out _ HB0.out)).mono ?_
  rw [HR.out]
  rintro e w1 ⟨rfl, hb1⟩
  have HX := hid (hb1.mono (show w.heap.size + 2 ≤ _ by simp))
  obtain ⟨hB1, hs1, g2, g4⟩ := HW.out _ HX.out
  have k0 := cell_cells (i := 0) g2
  have k1 := cell_cells (i := 1) g2
  simp only [List.getElem?_toArray, List.getElem?_cons_zero, List.getElem?_cons_succ] at k0 k1
  clear hb1 g2 g4
  go_wp2_with fail
  refine (tclone_any t w1 _ _ (HC.out _ hB1) hN).mono ?_
  rintro e w2 ⟨ve2, vk2, rfl, hrd, hb2⟩
  obtain ⟨Av, nv, Aw, nw, rfl, rfl⟩ := rda_shape hrd
  have hs2 := hb2.size
  obtain ⟨hB2, _, _, g4⟩ := HW.out _ (HX.out.trans (hb2.mono hs1))
  have HG4' := hid g4
  have HRU := hid hrd
  clear hb2 hrd g4 k0 k1
  have k0 : w2.cell? ⟨w.heap.size + 1, 0, none⟩ = some (.slice none 0 0) := cell_cells (i := 0) HG4'.out
  have k1 : w2.cell? ⟨w.heap.size + 1, 1, none⟩ = some (.slice none 0 0) := cell_cells (i := 1) HG4'.out
  have z0 := cells_frz (i := 0) HG4'.out
  have z1 := cells_frz (i := 1) HG4'.out
  go_wp2_with fail
  obtain ⟨r0, r1, hrW, hsW⟩ := box_tree HG4'.out HRU.out (fun b hb => by have := hb.1; omega)
  refine bodyPost_ret (v := .agg #[.slice Av t.es.length nv, .slice Aw t.ks.length nw]) (by simp [results, Tryz.results72, go_sem, r0, r1]) rfl ⟨_, _, rfl, ?_, (hB2.setCell (by simp) _).setCell (by simp) _⟩
  exact rda_up (fun _ _ => rfl) (fun b hb => ⟨by have := hb.1; omega, by rw [hsW]; exact hb.2⟩) _ _ _ hrW

/-- What causal.Clone hands back. -/
def cloT (t : Tr) (c : List Sp) : Tr := if caR t c then t else .mk [] []
def cloC (t : Tr) (c : List Sp) : List Sp := if caR t c then c else []
set_option maxHeartbeats 4000000 in
theorem kclone_any (t : Tr) (c : List Sp) (ve vk vc : Value) (w : World) (h : t.rd w w.heap.size ve vk) (hc : SlP w w.heap.size 3 SpE vc c) (hN : t.sz ≤ 4000) (hN' : c.length ≤ 20000) :
    Calls Tryz.prog 22 #[.agg #[ve, vk, vc]] w (RetC w (cloT t c) (cloC t c)) := by
  have HC : Hid (∀ w', Below w.heap.size w w' → (t.rd w' w'.heap.size ve vk ∧ SlP w' w'.heap.size 3 SpE vc c)) := fun w' hb => ⟨rd_below hb hb.size _ _ _ h, hc.imp hb hb.size fun _ _ _ h => h⟩
  obtain ⟨A3, n3, A4, n4, rfl, rfl⟩ := rd_shape h
  obtain ⟨A5, n5, rfl, _⟩ := hc
  have hb0 : Below w.heap.size w ((w.alloc (.cells #[.slice A3 t.es.length n3, .slice A4 t.ks.length n4, .slice A5 c.length n5] 29)).alloc (.cells #[.slice none 0 0, .slice none 0 0, .slice none 0 0] 29)) := ((Below.refl _ w).alloc (Nat.le_refl _) _).alloc (by simp) _
  have HB0 := hid hb0
  have HX : Hid (∀ W, Below (w.heap.size + 2) ((w.alloc (.cells #[.slice A3 t.es.length n3, .slice A4 t.ks.length n4, .slice A5 c.length n5] 29)).alloc (.cells #[.slice none 0 0, .slice none 0 0, .slice none 0 0] 29)) W → Below w.heap.size w W ∧ W.heap[w.heap.size + 1]? = some (.cells #[.slice none 0 0, .slice none 0 0, .slice none 0 0] 29 (0, 0)) ∧ w.heap.size + 2 ≤ W.heap.size ∧ (W.cell? ⟨w.heap.size, 0, none⟩ = some (.slice A3 t.es.length n3) ∧ W.cell? ⟨w.heap.size, 1, none⟩ = some (.slice A4 t.ks.length n4) ∧ W.cell? ⟨w.heap.size, 2, none⟩ = some (.slice A5 c.length n5))) := fun W hW => by
    have g0 : W.heap[w.heap.size]? = some (.cells #[.slice A3 t.es.length n3, .slice A4 t.ks.length n4, .slice A5 c.length n5] 29 (0, 0)) := (hW.block _ (by omega)).trans ((heap_old (by simp)).trans (heap_new rfl))
    exact ⟨HB0.out.trans (hW.mono (by omega)), (hW.block _ (by omega)).trans (heap_new (by simp)), by have := hW.size; simpa using this, cell_cells (i := 0) g0, cell_cells (i := 1) g0, cell_cells (i := 2) g0⟩
  clear h hb0
  go_enter Tryz.func22, Tryz.ntmps22
  obtain ⟨_, _, _, q0, q1, q2⟩ := HX.out _ (Below.refl _ _)
  go_wp2_with fail
  refine (caright_any t c _ _ _ _ (HC.out _ HB0.out).1 (HC.out _ HB0.out).2 hN hN').mono ?_
  clear q0 q1 q2
  cases hr : caR t c
  · rintro e w1 ⟨rfl, hb1⟩
    have hX := hb1.mono (show w.heap.size + 2 ≤ _ by simp)
    obtain ⟨hB, g, hs, q0, q1, q2⟩ := HX.out _ hX
    have HG := hid g
    have e1 : cloT t c = .mk [] [] := by unfold cloT; rw [hr]; rfl
    have e2 : cloC t c = [] := by unfold cloC; rw [hr]; rfl
    have HE1 := hid e1
    have HE2 := hid e2
    have k0 : w1.cell? ⟨w.heap.size + 1, 0, none⟩ = some (.slice none 0 0) := cell_cells (i := 0) g
    have k1 : w1.cell? ⟨w.heap.size + 1, 1, none⟩ = some (.slice none 0 0) := cell_cells (i := 1) g
    have k2 : w1.cell? ⟨w.heap.size + 1, 2, none⟩ = some (.slice none 0 0) := cell_cells (i := 2) g
    have z0 := cells_frz (i := 0) g
    have z1 := cells_frz (i := 1) g
    have z2 := cells_frz (i := 2) g
    clear g hr hb1 hX e1 e2
    go_wp2_with fail
    obtain ⟨r0, r1, r2, hK, hS⟩ := box3 HG.out (.slice none 0 0) (.slice none 0 0) (.slice none 0 0)
    refine bodyPost_ret (v := .agg #[.slice none 0 0, .slice none 0 0, .slice none 0 0]) (by simp [results, Tryz.results22, go_sem, r0, r1, r2]) rfl ⟨_, _, _, rfl, by rw [HE1.out]; exact rda_nil _ _, by rw [HE2.out]; exact SlA.nil, ((hB.setCell (by simp) _).setCell (by simp) _).setCell (by simp) _⟩
  · rintro e w1 ⟨rfl, hb1⟩
    have hX := hb1.mono (show w.heap.size + 2 ≤ _ by simp)
    have HX1 := hid hX
    obtain ⟨hB, _, hs, q0, q1, q2⟩ := HX.out _ hX
    have e1 : cloT t c = t := by unfold cloT; rw [hr]; rfl
    have e2 : cloC t c = c := by unfold cloC; rw [hr]; rfl
    have HE1 := hid e1
    have HE2 := hid e2
    have HR5 := hid (caR_right hr)
    have hcl : c.length ≤ Few := by unfold Few; omega
    have hneA : w.heap.size + 1 ≠ w.heap.size := by omega
    clear hb1 hX hr e1 e2
    go_upto_region 3 with (fail)
    go_region_held3 (fun w' => w'.cell? ⟨w.heap.size, 0, none⟩ = some (.slice A3 t.es.length n3) ∧ w'.cell? ⟨w.heap.size, 1, none⟩ = some (.slice A4 t.ks.length n4) ∧ w'.cell? ⟨w.heap.size, 2, none⟩ = some (.slice A5 c.length n5))
      (first | go_keep | exact (HX.out _ hbk3.out).2.2.2 | exact (HX.out _ hbk2.out).2.2.2)
      (first | (go_at_call 72; go_loud ((refine (tCloneR_any t _ _ _ (HC.out _ (HX.out _ (HX1.out.trans (by go_grown))).1).1 HR5.out (by omega)).mono ?_); rintro e w2 ⟨ve1, vk1, rfl, hrd1, hb⟩; obtain ⟨Av, nv, Aw, nw, rfl, rfl⟩ := rda_shape hrd1; have HR := hid hrd1; have hbk2 : Hid (Below (w.heap.size + 2) ((w.alloc (.cells #[.slice A3 t.es.length n3, .slice A4 t.ks.length n4, .slice A5 c.length n5] 29)).alloc (.cells #[.slice none 0 0, .slice none 0 0, .slice none 0 0] 29)) w2) := hid ((HX1.out.trans (Below.trans (by go_grown) (hb.mono (by first | omega | (simp; done) | (simp; omega)))))); clear hrd1 hb))
             | (go_at_call 65; go_loud ((refine (cloneC_any c _ w2 (HC.out _ (HX.out _ hbk2.out).1).2 hcl).mono ?_); rintro e w3 ⟨v2, rfl, ho2, hb2⟩; obtain ⟨A7, c7, hv7⟩ := ho2.shape; subst hv7; have HO2 := hid ho2; have hbk3 := hid (hbk2.out.trans (hb2.mono (HX.out _ hbk2.out).2.2.1)); have HG2 := hid (HX.out _ hbk3.out).2.1; have k0 : w3.cell? ⟨w.heap.size + 1, 0, none⟩ = some (.slice none 0 0) := cell_cells (i := 0) HG2.out; have k1 : w3.cell? ⟨w.heap.size + 1, 1, none⟩ = some (.slice none 0 0) := cell_cells (i := 1) HG2.out; have k2 : w3.cell? ⟨w.heap.size + 1, 2, none⟩ = some (.slice none 0 0) := cell_cells (i := 2) HG2.out; have z0 := cells_frz (i := 0) HG2.out; have z1 := cells_frz (i := 1) HG2.out; have z2 := cells_frz (i := 2) HG2.out; have HB2 := hid hb2; clear ho2 hb2)))
    all_goals (
      go_wp2_with fail
      have hs3 : w.heap.size + 2 ≤ w3.heap.size := (HX.out _ hbk3.out).2.2.1
      have hs2 : w.heap.size + 2 ≤ w2.heap.size := (HX.out _ hbk2.out).2.2.1
      have hs23 := HB2.out.size
      obtain ⟨r0, r1, r2, hK, hS⟩ := box3 HG2.out (.slice Av t.es.length nv) (.slice Aw t.ks.length nw) (.slice A7 c.length c7)
      have hBW : Below w.heap.size w (((w3.setCell ⟨w.heap.size + 1, 0, none⟩ (.slice Av t.es.length nv)).setCell ⟨w.heap.size + 1, 1, none⟩ (.slice Aw t.ks.length nw)).setCell ⟨w.heap.size + 1, 2, none⟩ (.slice A7 c.length c7)) := (((HX.out _ hbk3.out).1.setCell (by simp) _).setCell (by simp) _).setCell (by simp) _
      clear k0 k1 k2 z0 z1 z2
      generalize (((w3.setCell ⟨w.heap.size + 1, 0, none⟩ (.slice Av t.es.length nv)).setCell ⟨w.heap.size + 1, 1, none⟩ (.slice Aw t.ks.length nw)).setCell ⟨w.heap.size + 1, 2, none⟩ (.slice A7 c.length c7)) = W at *
      refine bodyPost_ret (v := .agg #[.slice Av t.es.length nv, .slice Aw t.ks.length nw, .slice A7 c.length c7]) (by simp [results, Tryz.results22, go_sem, r0, r1, r2]) rfl ⟨_, _, _, rfl, ?_, ?_, hBW⟩
      · rw [HE1.out]
        exact rda_up (fun b hb => (hK b (by have := hb.1; simp only [World.size_drew] at this; omega)).trans (HB2.out.block b hb.2)) (fun b hb => ⟨by have := hb.1; simp only [World.size_drew] at this; omega, by have := hb.2; omega⟩) _ _ _ HR.out
      · rw [HE2.out]
        exact (HO2.out.sla (by unfold Big; omega)).up (fun b hb => hK b (by have := hb.1; omega)) (fun b hb => ⟨by have := hb.1; omega, by have := hb.2.1; omega⟩) (fun _ _ _ h => h))
end Go.Proofs.YtlapdmgjfdelnaaGreat

namespace Go.Proofs.YtlapdmgjfdelnaaGreat
open Go.RowKit
set_option maxRecDepth 100000

/-- What one lies as: its tree and its context. -/
def CaE (w : World) (B : Nat) (x : Tr × List Sp) (cs : List Value) : Prop := ∃ ve vk vc, cs = [ve, vk, vc] ∧ x.1.rd w B ve vk ∧ SlP w B 3 SpE vc x.2
end Go.Proofs.YtlapdmgjfdelnaaGreat

namespace Go.Proofs.YtlapdmgjfdelnaaGreat
open Go.RowKit
set_option maxRecDepth 100000

theorem Calls.boolEq {P : Program} {f : FuncId} {args : Array Value} {w : World} {b c : Bool} (h : Calls P f args w fun e w' => e = .returned (.bool b) ∧ Below w.heap.size w w') (hb : b = c) : Calls P f args w fun e w' => e = .returned (.bool c) ∧ Below w.heap.size w w' := hb ▸ h
end Go.Proofs.YtlapdmgjfdelnaaGreat

namespace Go.Proofs.YtlapdmgjfdelnaaGreat
open Go.RowKit
set_option maxRecDepth 100000

set_option maxHeartbeats 1000000 in
theorem crange_any (dc fr hi : Int) (w : World) (h1 : Dt.right ⟨dc, fr⟩ = true) (h2 : Dt.right ⟨dc, hi⟩ = true) (h3 : fr ≤ hi) :
    Calls Tryz.prog 110 #[.int .i64 dc, .int .i64 fr, .int .i64 hi] w fun e w' => ∃ v, e = .returned (.tuple #[v, .int .i64 0]) ∧ SlA w' (fun b => w.heap.size ≤ b ∧ b < w'.heap.size) 3 SpE v [⟨dc, fr, hi⟩] ∧ Below w.heap.size w w' := by
  have H1 := hid h1
  have H2 := hid h2
  have hk : Sp.Ok ⟨dc, fr, hi⟩ := by
    unfold Dt.right at h1 h2
    rw [decide_eq_true_eq] at h1 h2
    simp only at h1 h2
    exact ⟨by simp only; unfold I64; omega, by simp only; unfold I64; omega, by simp only; unfold I64; omega⟩
  have HK := hid hk
  clear h1 h2 hk
  go_enter Tryz.func110, Tryz.ntmps110
  go_wp2_with fail
  refine (dright_any ⟨dc, fr⟩ _).mono ?_
  rw [H1.out]
  rintro e w1 ⟨rfl, hb1⟩
  go_wp2_with fail
  refine (dright_any ⟨dc, hi⟩ _).mono ?_
  rw [H2.out]
  rintro e w2 ⟨rfl, hb2⟩
  have hB := hb1.trans (hb2.mono hb1.size)
  have hs := hB.size
  have hn : ¬ hi < fr := by omega
  clear hb1 hb2
  go_wp2_with fail
  refine bodyPost_ret (v := .tuple #[.slice (some ⟨w2.heap.size, 0, none⟩) 1 1, .int .i64 0]) (by simp [results, Tryz.results110, go_sem]) rfl ⟨_, rfl, SlA.one (E := SpE) (x := (⟨dc, fr, hi⟩ : Sp)) (cs := [.int .i64 dc, .int .i64 fr, .int .i64 hi]) ⟨rfl, HK.out⟩ rfl (heap_new rfl) ⟨hs, by simp⟩, hB.alloc hs _⟩
/-- The names by which changes are named within. -/
def ownC : List Sp := [⟨0, 1099511627765, 1099511627776⟩]
theorem own_apart : apartB ownC = true := rng_apart (by decide) (by decide) (by decide)
theorem own20_any (w : World) : Calls Tryz.prog 107 #[] w fun e w' => ∃ v, e = .returned v ∧ SlA w' (fun b => w.heap.size ≤ b ∧ b < w'.heap.size) 3 SpE v ownC ∧ Below w.heap.size w w' := by
  go_enter Tryz.func107, Tryz.ntmps107
  go_wp2_with fail
  refine (crange_any 0 1099511627765 1099511627776 _ (by decide) (by decide) (by decide)).mono ?_
  rintro e w1 ⟨v, rfl, hs, hb⟩
  go_wp2_with fail
  go_ret
  exact ⟨_, rfl, hs, hb⟩
theorem own_some {c : List Sp} (h : apartB c = true) : 0 < (ctxBy c ownC 1).length ↔ someD c 0 1099511627765 12 = true :=
  (meet_some (n := 12) (dc := 0) (fr := 1099511627765) h (by decide) (by decide) (by decide)).2

theorem TxB.start {w5 : World} {B : Nat} {a b c a' b' c' : Value} {x y : Kn} (h1 : x.1.rda w5 (fun k => B ≤ k ∧ k < w5.heap.size) a b) (h2 : SlA w5 (fun k => B ≤ k ∧ k < w5.heap.size) 3 SpE c x.2) (h3 : y.1.rda w5 (fun k => B ≤ k ∧ k < w5.heap.size) a' b') (h4 : SlA w5 (fun k => B ≤ k ∧ k < w5.heap.size) 3 SpE c' y.2) :
    TxB (w5.alloc (.cells #[a, b, c, a', b', c', .slice none 0 0] 148)) w5.heap.size (fun k => B ≤ k) (fun i => if i = 0 then (a, b, c) else (a', b', c')) (.slice none 0 0) x y [] := by
  have k1 : Keeps (fun k => B ≤ k ∧ k < w5.heap.size) w5 (w5.alloc (.cells #[a, b, c, a', b', c', .slice none 0 0] 148)) := fun k hk => heap_old hk.2
  have k2 : ∀ k, (B ≤ k ∧ k < w5.heap.size) → okGo (w5.alloc (.cells #[a, b, c, a', b', c', .slice none 0 0] 148)) w5.heap.size (.slice none 0 0) (fun k => B ≤ k) k := fun k hk => ⟨hk.1, by omega, by rw [World.size_alloc]; omega, by simp [Value.ownBlock]⟩
  exact ⟨heap_new rfl, rda_up k1 k2 _ _ _ h1, h2.up k1 k2 fun _ _ _ h => h, rda_up k1 k2 _ _ _ h3, h4.up k1 k2 fun _ _ _ h => h, OwnD.nil, fun b hb => by simp [Value.ownBlock] at hb⟩

/-- What txn.Begin tells. -/
def begE (x : Kn) : Int := if caR x.1 x.2 then (if someD x.2 0 1099511627765 12 then 1 else 0) else 1
def BegR (w : World) (x : Kn) (e : Ending) (w' : World) : Prop :=
  (begE x = 1 ∧ e = .returned (.tuple #[.pointer none, .int .i64 1]) ∧ Below w.heap.size w w') ∨
  (begE x = 0 ∧ ∃ g v, e = .returned (.tuple #[.pointer (some ⟨g, 0, none⟩), .int .i64 0]) ∧ w.heap.size ≤ g ∧ TxB w' g (fun b => w.heap.size ≤ b) v (.slice none 0 0) x x [] ∧ Below w.heap.size w w')
set_option maxHeartbeats 4000000 in
theorem begin_any (x : Kn) (ve vk vc : Value) (w : World) (h : x.1.rd w w.heap.size ve vk) (hc : SlP w w.heap.size 3 SpE vc x.2) (hN : x.1.sz ≤ 4000) (hN' : x.2.length ≤ 20000) :
    Calls Tryz.prog 57 #[.agg #[ve, vk, vc]] w (BegR w x) := by
  obtain ⟨t, c⟩ := x
  simp only at h hc hN hN'
  have HC : Hid (∀ w', Below w.heap.size w w' → (t.rd w' w'.heap.size ve vk ∧ SlP w' w'.heap.size 3 SpE vc c)) := fun w' hb => ⟨rd_below hb hb.size _ _ _ h, hc.imp hb hb.size fun _ _ _ h => h⟩
  obtain ⟨A3, n3, A4, n4, rfl, rfl⟩ := rd_shape h
  obtain ⟨A5, n5, rfl, _⟩ := hc
  have hb0 : Below w.heap.size w (w.alloc (.cells #[.slice A3 t.es.length n3, .slice A4 t.ks.length n4, .slice A5 c.length n5] 29)) := (Below.refl _ w).alloc (Nat.le_refl _) _
  have HB0 := hid hb0
  have HX : Hid (∀ W, Below (w.heap.size + 1) (w.alloc (.cells #[.slice A3 t.es.length n3, .slice A4 t.ks.length n4, .slice A5 c.length n5] 29)) W → Below w.heap.size w W ∧ w.heap.size + 1 ≤ W.heap.size ∧ (W.cell? ⟨w.heap.size, 0, none⟩ = some (.slice A3 t.es.length n3) ∧ W.cell? ⟨w.heap.size, 1, none⟩ = some (.slice A4 t.ks.length n4) ∧ W.cell? ⟨w.heap.size, 2, none⟩ = some (.slice A5 c.length n5))) := fun W hW => by
    have g0 : W.heap[w.heap.size]? = some (.cells #[.slice A3 t.es.length n3, .slice A4 t.ks.length n4, .slice A5 c.length n5] 29 (0, 0)) := (hW.block _ (by omega)).trans (heap_new rfl)
    exact ⟨HB0.out.trans (hW.mono (by omega)), by have := hW.size; simpa using this, cell_cells (i := 0) g0, cell_cells (i := 1) g0, cell_cells (i := 2) g0⟩
  clear h hb0
  go_enter Tryz.func57, Tryz.ntmps57
  obtain ⟨_, hs0, q0, q1, q2⟩ := HX.out _ (Below.refl _ _)
  go_upto_region 1 with (fail)
  cases hr : caR t c
  · have HE : Hid (begE (t, c) = 1) := by unfold Hid begE; simp [hr]
    have HQ := hid (fun (wf : World) (hbf : Below (w.alloc (.cells #[.slice A3 t.es.length n3, .slice A4 t.ks.length n4, .slice A5 c.length n5] 29)).heap.size (w.alloc (.cells #[.slice A3 t.es.length n3, .slice A4 t.ks.length n4, .slice A5 c.length n5] 29)) wf) => Calls.boolEq (caright_any t c _ _ _ wf (HC.out _ (HB0.out.trans (hbf.mono (by simp)))).1 (HC.out _ (HB0.out.trans (hbf.mono (by simp)))).2 hN hN') hr)
    have f0 := far_cell (B := (w.alloc (.cells #[.slice A3 t.es.length n3, .slice A4 t.ks.length n4, .slice A5 c.length n5] 29)).heap.size) q0 (by simp)
    have f1 := far_cell (B := (w.alloc (.cells #[.slice A3 t.es.length n3, .slice A4 t.ks.length n4, .slice A5 c.length n5] 29)).heap.size) q1 (by simp)
    have f2 := far_cell (B := (w.alloc (.cells #[.slice A3 t.es.length n3, .slice A4 t.ks.length n4, .slice A5 c.length n5] 29)).heap.size) q2 (by simp)
    clear hr q0 q1 q2 hs0
    refine wp_region_far (w.alloc (.cells #[.slice A3 t.es.length n3, .slice A4 t.ks.length n4, .slice A5 c.length n5] 29)).heap.size (by kernel_rfl) (by kernel_rfl) ?_
    repeat (go_big_quiet_step (first | (go_at_call 62; with_reducible exact Calls.far_all (Nat.le_refl _) HQ.out)))
    refine wpQuiet_nil ?_
    intro w2 hb
    clear f0 f1 f2
    have hB := HB0.out.trans (hb.mono (by simp))
    clear hb
    go_wp2_with fail
    exact bodyPost_ret (v := .tuple #[.pointer none, .int .i64 1]) (by simp [results, Tryz.results57, go_sem]) rfl (.inl ⟨HE.out, rfl, hB⟩)
  · have HAP := hid (caR_apart hr)
    have HR := hid hr
    have hml : (ctxBy c ownC 1).length ≤ Big := by have := ctxBy_len c ownC 1; unfold Big ownC at *; simp at *; omega
    have HML := hid hml
    have e1 : cloT t c = t := by unfold cloT; rw [hr]; rfl
    have e2 : cloC t c = c := by unfold cloC; rw [hr]; rfl
    have HE1 := hid e1
    have HE2 := hid e2
    clear hr hml e1 e2
    go_region_held3 (fun w' => w'.cell? ⟨w.heap.size, 0, none⟩ = some (.slice A3 t.es.length n3) ∧ w'.cell? ⟨w.heap.size, 1, none⟩ = some (.slice A4 t.ks.length n4) ∧ w'.cell? ⟨w.heap.size, 2, none⟩ = some (.slice A5 c.length n5))
      (first | go_keep | exact (HX.out _ hbk3.out).2.2 | exact (HX.out _ hbk2.out).2.2 | exact (HX.out _ hbk1.out).2.2)
      (first
        | (go_at_call 62; go_loud ((refine (caright_any t c _ _ _ _ (HC.out _ (HX.out _ (by go_grown)).1).1 (HC.out _ (HX.out _ (by go_grown)).1).2 hN hN').mono ?_); rw [HR.out]; rintro e w1 ⟨rfl, hb⟩; have hbk1 : Hid (Below (w.heap.size + 1) (w.alloc (.cells #[.slice A3 t.es.length n3, .slice A4 t.ks.length n4, .slice A5 c.length n5] 29)) w1) := hid (Below.trans (by go_grown) (hb.mono (by first | omega | (simp; done) | (simp; omega)))); clear hb))
        | (go_at_call 107; go_loud ((refine (own20_any _).mono ?_); rintro e w2 ⟨v2, rfl, ho2, hb⟩; obtain ⟨A7, c7, hv7⟩ := ho2.shape; subst hv7; have HO2 := hid ho2; have hbk2 : Hid (Below (w.heap.size + 1) (w.alloc (.cells #[.slice A3 t.es.length n3, .slice A4 t.ks.length n4, .slice A5 c.length n5] 29)) w2) := hid ((hbk1.out.trans (by go_grown)).trans (hb.mono (by first | exact (HX.out _ hbk1.out).2.1 | omega | (simp; done) | (simp; omega)))); clear ho2 hb))
        | (go_at_call 106; go_loud ((refine (cmeet_any c ownC _ _ _ (HC.out _ (HX.out _ (hbk2.out.trans (by go_grown))).1).2 (HO2.out.slp (fun b hb => hb.2) (by go_grown)) HAP.out own_apart (by omega) (by unfold ownC; simp)).mono ?_); rintro e w3 ⟨v3, rfl, ho3, hb⟩; obtain ⟨A8, c8, hv8⟩ := ho3.shape; subst hv8; have hbk3 : Hid (Below (w.heap.size + 1) (w.alloc (.cells #[.slice A3 t.es.length n3, .slice A4 t.ks.length n4, .slice A5 c.length n5] 29)) w3) := hid ((hbk2.out.trans (by go_grown)).trans (hb.mono (by first | exact (HX.out _ hbk2.out).2.1 | omega | (simp; done) | (simp; omega)))); clear ho3 hb))
        | fail)
    all_goals
      obtain ⟨hB3, hs3, q0, q1, q2⟩ := HX.out _ hbk3.out
      have HB3 := hid hB3
      have HK3 := hid hbk3
      clear hB3
      cases hsd : someD c 0 1099511627765 12
      · have hnl : ¬ 0 < (ctxBy c ownC 1).length := fun h => by rw [(own_some HAP.out).1 h] at hsd; cases hsd
        have hnd : decide (0 < (ctxBy c ownC 1).length) = false := decide_eq_false hnl
        have hz : (ctxBy c ownC 1).length = 0 := by omega
        have HE : Hid (begE (t, c) = 0) := by unfold Hid begE; simp [HR.out, hsd]
        clear hsd
        go_upto_region 3 with (fail)
        go_region_held3 (fun w' => w'.cell? ⟨w.heap.size, 0, none⟩ = some (.slice A3 t.es.length n3) ∧ w'.cell? ⟨w.heap.size, 1, none⟩ = some (.slice A4 t.ks.length n4) ∧ w'.cell? ⟨w.heap.size, 2, none⟩ = some (.slice A5 c.length n5))
          (first | go_keep | exact (HX.out _ hbk5.out).2.2 | exact (HX.out _ hbk4.out).2.2)
          (first
            | (go_at_call 22; ((refine (kclone_any t c _ _ _ _ (HC.out _ (HX.out _ (hbk4.out.trans (by go_grown))).1).1 (HC.out _ (HX.out _ (hbk4.out.trans (by go_grown))).1).2 hN hN').mono ?_); rw [HE1.out, HE2.out]; rintro e w5 ⟨v5, u5, x5, rfl, hrd5, hsl5, hb⟩; obtain ⟨A51, m51, A52, m52, hv1, hv2⟩ := rda_shape hrd5; subst hv1; subst hv2; obtain ⟨A53, m53, hv3⟩ := hsl5.shape; subst hv3; have HR5 := hid hrd5; have HS5 := hid hsl5; have HB5 : Hid (Below w4.heap.size w4 w5) := hid (Below.trans (by go_grown) (hb.mono (by first | omega | (simp; done) | (simp; omega)))); have hbk5 : Hid (Below (w.heap.size + 1) (w.alloc (.cells #[.slice A3 t.es.length n3, .slice A4 t.ks.length n4, .slice A5 c.length n5] 29)) w5) := hid (hbk4.out.trans (HB5.out.mono (HX.out _ hbk4.out).2.1)); clear hrd5 hsl5 hb))
            | (go_at_call 22; go_loud ((refine (kclone_any t c _ _ _ _ (HC.out _ (HX.out _ (HK3.out.trans (by go_grown))).1).1 (HC.out _ (HX.out _ (HK3.out.trans (by go_grown))).1).2 hN hN').mono ?_); rw [HE1.out, HE2.out]; rintro e w4 ⟨v4, u4, x4, rfl, hrd4, hsl4, hb⟩; obtain ⟨A41, m41, A42, m42, hv1, hv2⟩ := rda_shape hrd4; subst hv1; subst hv2; obtain ⟨A43, m43, hv3⟩ := hsl4.shape; subst hv3; have HR4 := hid hrd4; have HS4 := hid hsl4; have hbk4 : Hid (Below (w.heap.size + 1) (w.alloc (.cells #[.slice A3 t.es.length n3, .slice A4 t.ks.length n4, .slice A5 c.length n5] 29)) w4) := hid ((HK3.out.trans (by go_grown)).trans (hb.mono (by first | exact (HX.out _ HK3.out).2.1 | omega | (simp; done) | (simp; omega)))); clear hrd4 hsl4 hb))
            | fail)
        all_goals
          have hs4 : w.heap.size + 1 ≤ w4.heap.size := (HX.out _ hbk4.out).2.1
          have hs45 := HB5.out.size
          have hB5 := (HX.out _ hbk5.out).1
          have hst := TxB.start (w5 := w5) (B := w.heap.size) (x := (t, c)) (y := (t, c)) (rda_up (fun b hb => HB5.out.block b hb.2) (fun b hb => ⟨by have := hb.1; first | omega | (simp at this; omega), by have := hb.2; omega⟩) _ _ _ HR4.out) (HS4.out.up (fun b hb => HB5.out.block b hb.2) (fun b hb => ⟨by have := hb.1; first | omega | (simp at this; omega), by have := hb.2; omega⟩) fun _ _ _ h => h) (rda_up (fun _ _ => rfl) (fun b hb => ⟨by have := hb.1; first | omega | (simp at this; omega), hb.2⟩) _ _ _ HR5.out) (HS5.out.up (fun _ _ => rfl) (fun b hb => ⟨by have := hb.1; first | omega | (simp at this; omega), hb.2⟩) fun _ _ _ h => h)
          have HST := hid hst
          clear hst
          go_wp2_with fail
          exact bodyPost_ret (v := .tuple #[.pointer (some ⟨w5.heap.size, 0, none⟩), .int .i64 0]) (by simp [results, Tryz.results57, go_sem]) rfl (.inr ⟨HE.out, _, _, rfl, by omega, HST.out, hB5.alloc (by omega) _⟩)
      · have hnl : 0 < (ctxBy c ownC 1).length := (own_some HAP.out).2 hsd
        have hnd : decide (0 < (ctxBy c ownC 1).length) = true := decide_eq_true hnl
        have HE : Hid (begE (t, c) = 1) := by unfold Hid begE; simp [HR.out, hsd]
        clear hsd
        go_wp2_with fail
        exact bodyPost_ret (v := .tuple #[.pointer none, .int .i64 1]) (by simp [results, Tryz.results57, go_sem]) rfl (.inl ⟨HE.out, rfl, HB3.out⟩)
end Go.Proofs.YtlapdmgjfdelnaaGreat

namespace Go.Proofs.YtlapdmgjfdelnaaGreat
open Go.RowKit
set_option maxRecDepth 100000

set_option maxHeartbeats 2000000 in
theorem cloneS_any (xs : List _) (v : Value) (w : World) (h : SlP w w.heap.size 1 StE v xs) (hN : xs.length ≤ Few) :
    Calls Tryz.prog 154 #[v] w (RetO w 9 1 (fun _ => StE) xs) := by
  have H := hid h
  have q : ∀ (w : World) (a : Option Addr) (n c n' c' : Nat), (binOp .eql 30 (.slice a n c) (.slice none n' c')).run Tryz.prog w = .ok (.bool a.isNone) w := fun w a n c n' c' => Lib.run_eql_slice_nil w _ _ a n c n' c' Tryz.underlying30
  obtain ⟨A, c, rfl, h1, h2, h3⟩ := h
  cases A with
  | none =>
    have hz : xs = [] := by
      rcases xs with _ | ⟨x, xs⟩
      · rfl
      · obtain ⟨b, off, e, _⟩ := h3 (by simp); cases e
    subst hz
    go_enter Tryz.func154, Tryz.ntmps154
    go_wp2_with fail
    go_ret
    exact ⟨_, rfl, OwnP.nil, Below.refl _ _⟩
  | some a =>
    have HN := hid hN
    clear h1 h2 h3
    go_enter Tryz.func154, Tryz.ntmps154
    go_wp2_with (at_builtin; go_loud (refine wpList_few rfl (.tmp 5) (.tmp 6) _ rfl eiStr (by decide) (by decide) (fun _ _ h => h.one) rfl (OwnP.zero (base := w.heap.size) (heap_new rfl) (Nat.le_refl _)) rfl (H.out.imp ((Below.refl _ w).alloc (Nat.le_refl _) _) (Nat.le_refl _) fun _ _ _ h => h) (by simpa using HN.out) (by simp) ?_); intro v2 w2 hown2 hb2 _)
    go_ret
    exact ⟨_, rfl, by simpa using hown2, ((Below.refl _ w).alloc (Nat.le_refl _) _).trans hb2⟩
theorem box4o {w : World} {g : Nat} {x y z u : Value} {e : TypeId} (hbx : w.heap[g]? = some (.cells #[x, y, z, u] e (0, 0))) (a b c d : Value) :
    ((((w.setCell ⟨g, 0, none⟩ a).setCell ⟨g, 1, none⟩ b).setCell ⟨g, 2, none⟩ c).setCell ⟨g, 3, none⟩ d).heap[g]? = some (.cells #[a, b, c, d] e (0, 0)) ∧
      (∀ k, k ≠ g → ((((w.setCell ⟨g, 0, none⟩ a).setCell ⟨g, 1, none⟩ b).setCell ⟨g, 2, none⟩ c).setCell ⟨g, 3, none⟩ d).heap[k]? = w.heap[k]?) ∧ ((((w.setCell ⟨g, 0, none⟩ a).setCell ⟨g, 1, none⟩ b).setCell ⟨g, 2, none⟩ c).setCell ⟨g, 3, none⟩ d).heap.size = w.heap.size := by
  have hW := cells_set (i := 3) (cells_set (i := 2) (cells_set (i := 1) (cells_set (i := 0) hbx a) b) c) d
  exact ⟨by rw [hW]; simp, fun k hk => (Below.heap_setCell _ _ _ _ hk).trans ((Below.heap_setCell _ _ _ _ hk).trans ((Below.heap_setCell _ _ _ _ hk).trans (Below.heap_setCell _ _ _ _ hk))), by simp [World.setCell]⟩
/-- The call hands back a change whose path lies in blocks of its own. -/
def RetOp (w : World) (o : Opr) (e : Ending) (w' : World) : Prop :=
  ∃ vp, e = .returned (.agg #[vp, .int .i64 o.act, .string o.s, .int .i64 o.n]) ∧ SlA w' (fun b => w.heap.size ≤ b ∧ b < w'.heap.size) 1 StE vp o.path ∧ Below w.heap.size w w'
set_option maxHeartbeats 2000000 in
theorem txclone_any (o : Opr) (vp : Value) (w : World) (h : SlP w w.heap.size 1 StE vp o.path) (hN : o.path.length ≤ 900000) :
    Calls Tryz.prog 101 #[.agg #[vp, .int .i64 o.act, .string o.s, .int .i64 o.n]] w (RetOp w o) := by
  obtain ⟨A, c, rfl, b1, b2, _⟩ := id h
  obtain ⟨path, act, s, n⟩ := o
  simp only at h hN b1 b2 ⊢
  have HC : Hid (∀ w', Below w.heap.size w w' → SlP w' w'.heap.size 1 StE (.slice A path.length c) path) := fun w' hb => h.imp hb hb.size fun _ _ _ h => h
  have hb0 : Below w.heap.size w ((w.alloc (.cells #[.slice A path.length c, .int .i64 act, .string s, .int .i64 n] 67)).alloc (.cells #[.slice none 0 0, .int .i64 0, .string ByteArray.empty, .int .i64 0] 67)) := ((Below.refl _ w).alloc (Nat.le_refl _) _).alloc (by simp) _
  have HB0 := hid hb0
  have HX : Hid (∀ W, Below (w.heap.size + 2) ((w.alloc (.cells #[.slice A path.length c, .int .i64 act, .string s, .int .i64 n] 67)).alloc (.cells #[.slice none 0 0, .int .i64 0, .string ByteArray.empty, .int .i64 0] 67)) W → (W.heap[w.heap.size]? = some (.cells #[.slice A path.length c, .int .i64 act, .string s, .int .i64 n] 67 (0, 0)) ∧ W.heap[w.heap.size + 1]? = some (.cells #[.slice none 0 0, .int .i64 0, .string ByteArray.empty, .int .i64 0] 67 (0, 0)))) := fun W hW =>
    ⟨(hW.block _ (by omega)).trans ((heap_old (by simp)).trans (heap_new rfl)), (hW.block _ (by omega)).trans (heap_new (by simp))⟩
  clear h hb0
  go_enter Tryz.func101, Tryz.ntmps101
  go_wp2_with fail
  refine (cloneS_any path _ _ (HC.out _ HB0.out) (by unfold Few; omega)).mono ?_
  rintro e w1 ⟨v1, rfl, hown, hb⟩
  obtain ⟨A1, c1, hv⟩ := OwnP.shape hown
  subst hv
  have HO := hid hown
  have hB : Below (w.heap.size + 2) ((w.alloc (.cells #[.slice A path.length c, .int .i64 act, .string s, .int .i64 n] 67)).alloc (.cells #[.slice none 0 0, .int .i64 0, .string ByteArray.empty, .int .i64 0] 67)) w1 := hb.mono (by simp)
  have hs1 := hb.size
  simp only [World.size_alloc] at hs1
  have HB := hid hB
  obtain ⟨g0, g1⟩ := HX.out _ hB
  have HG0 := hid g0
  have HG1 := hid g1
  have e1 := cell_cells (i := 1) g0
  have e2 := cell_cells (i := 2) g0
  have e3 := cell_cells (i := 3) g0
  have f0 := cells_frz (i := 0) g0
  have k0 := cells_frz (i := 0) g1
  have k1 := cells_frz (i := 1) g1
  have k2 := cells_frz (i := 2) g1
  have k3 := cells_frz (i := 3) g1
  have l0 := cell_cells (i := 0) g0
  have m0 : w1.cell? ⟨w.heap.size + 1, 0, none⟩ = some (.slice none 0 0) := cell_cells (i := 0) g1
  have m1 : w1.cell? ⟨w.heap.size + 1, 1, none⟩ = some (.int .i64 0) := cell_cells (i := 1) g1
  have m2 : w1.cell? ⟨w.heap.size + 1, 2, none⟩ = some (.string ByteArray.empty) := cell_cells (i := 2) g1
  have m3 : w1.cell? ⟨w.heap.size + 1, 3, none⟩ = some (.int .i64 0) := cell_cells (i := 3) g1
  simp only [List.getElem?_toArray, List.getElem?_cons_zero, List.getElem?_cons_succ] at e1 e2 e3 l0
  have hne : w.heap.size + 1 ≠ w.heap.size := by omega
  have hne' : w.heap.size ≠ w.heap.size + 1 := by omega
  clear hown hb hB g0 g1
  go_wp2_with fail
  have hg1 : (w1.setCell ⟨w.heap.size, 0, none⟩ (.slice A1 path.length c1)).heap[w.heap.size + 1]? = some (.cells #[.slice none 0 0, .int .i64 0, .string ByteArray.empty, .int .i64 0] 67 (0, 0)) := (Below.heap_setCell _ _ _ _ hne).trans HG1.out
  obtain ⟨hW, hK, hS⟩ := box4o hg1 (.slice A1 path.length c1) (.int .i64 act) (.string s) (.int .i64 n)
  have r0 := cell_cells (i := 0) hW
  have r1 := cell_cells (i := 1) hW
  have r2 := cell_cells (i := 2) hW
  have r3 := cell_cells (i := 3) hW
  simp only [List.getElem?_toArray, List.getElem?_cons_zero, List.getElem?_cons_succ] at r0 r1 r2 r3
  have hBW : Below w.heap.size w (((((w1.setCell ⟨w.heap.size, 0, none⟩ (.slice A1 path.length c1)).setCell ⟨w.heap.size + 1, 0, none⟩ (.slice A1 path.length c1)).setCell ⟨w.heap.size + 1, 1, none⟩ (.int .i64 act)).setCell ⟨w.heap.size + 1, 2, none⟩ (.string s)).setCell ⟨w.heap.size + 1, 3, none⟩ (.int .i64 n)) := (((((HB0.out.trans (HB.out.mono (by omega))).setCell (Nat.le_refl _) _).setCell (by simp) _).setCell (by simp) _).setCell (by simp) _).setCell (by simp) _
  have hS1 : (w1.setCell ⟨w.heap.size, 0, none⟩ (.slice A1 path.length c1)).heap.size = w1.heap.size := by simp [World.setCell]
  refine bodyPost_ret (v := .agg #[.slice A1 path.length c1, .int .i64 act, .string s, .int .i64 n]) (by simp [results, Tryz.results101, go_sem, r0, r1, r2, r3]) rfl ⟨_, rfl, ?_, hBW⟩
  exact (HO.out.sla (by unfold Big; omega)).up (fun b hb => (hK b (by have := hb.1; simp only [World.size_alloc] at this; omega)).trans (Below.heap_setCell _ _ _ _ (by have := hb.1; simp only [World.size_alloc] at this; show b ≠ w.heap.size; omega))) (fun b hb => ⟨by have := hb.1; simp only [World.size_alloc] at this; omega, by rw [hS, hS1]; exact hb.2.1⟩) (fun _ _ _ h => h)
end Go.Proofs.YtlapdmgjfdelnaaGreat

namespace Go.Proofs.YtlapdmgjfdelnaaGreat
open Go.RowKit
set_option maxRecDepth 100000

/-- A result box of its own, filled with what a call handed back. -/
theorem box_fin {w w1 : World} {N g : Nat} {T : Tr} {C : List Sp} {x y z a b c : Value} {e : TypeId} (hG : w1.heap[g]? = some (.cells #[x, y, z] e (0, 0))) (hB : Below w.heap.size w w1) (hg : w.heap.size ≤ g) (hN : g < N) (hrd : T.rda w1 (fun b => N ≤ b ∧ b < w1.heap.size) a b) (hsl : SlA w1 (fun b => N ≤ b ∧ b < w1.heap.size) 3 SpE c C) :
    (((w1.setCell ⟨g, 0, none⟩ a).setCell ⟨g, 1, none⟩ b).setCell ⟨g, 2, none⟩ c).cell? ⟨g, 0, none⟩ = some a ∧ (((w1.setCell ⟨g, 0, none⟩ a).setCell ⟨g, 1, none⟩ b).setCell ⟨g, 2, none⟩ c).cell? ⟨g, 1, none⟩ = some b ∧ (((w1.setCell ⟨g, 0, none⟩ a).setCell ⟨g, 1, none⟩ b).setCell ⟨g, 2, none⟩ c).cell? ⟨g, 2, none⟩ = some c ∧
    T.rda (((w1.setCell ⟨g, 0, none⟩ a).setCell ⟨g, 1, none⟩ b).setCell ⟨g, 2, none⟩ c) (fun q => w.heap.size ≤ q ∧ q < (((w1.setCell ⟨g, 0, none⟩ a).setCell ⟨g, 1, none⟩ b).setCell ⟨g, 2, none⟩ c).heap.size) a b ∧
    SlA (((w1.setCell ⟨g, 0, none⟩ a).setCell ⟨g, 1, none⟩ b).setCell ⟨g, 2, none⟩ c) (fun q => w.heap.size ≤ q ∧ q < (((w1.setCell ⟨g, 0, none⟩ a).setCell ⟨g, 1, none⟩ b).setCell ⟨g, 2, none⟩ c).heap.size) 3 SpE c C ∧
    Below w.heap.size w (((w1.setCell ⟨g, 0, none⟩ a).setCell ⟨g, 1, none⟩ b).setCell ⟨g, 2, none⟩ c) := by
  obtain ⟨r0, r1, r2, hK, hS⟩ := box3 hG a b c
  have hBW := ((hB.setCell (p := ⟨g, 0, none⟩) hg a).setCell (p := ⟨g, 1, none⟩) hg b).setCell (p := ⟨g, 2, none⟩) hg c
  exact ⟨r0, r1, r2, rda_up (fun q hq => hK q (by omega)) (fun q hq => ⟨by omega, by rw [hS]; exact hq.2⟩) _ _ _ hrd, hsl.up (fun q hq => hK q (by omega)) (fun q hq => ⟨by omega, by rw [hS]; exact hq.2⟩) (fun _ _ _ h => h), hBW⟩
set_option maxHeartbeats 4000000 in
theorem leaf_any (u : Tr) (o : Opr) (d : Dt) (ve vk vp : Value) (w : World) (h : u.rd w w.heap.size ve vk) (hp : SlP w w.heap.size 1 StE vp o.path) (ho : o.Ok) (hd : d.Ok) (hN : u.sz ≤ 4000) :
    Calls Tryz.prog 138 #[.agg #[ve, vk], .agg #[vp, .int .i64 o.act, .string o.s, .int .i64 o.n], .agg #[.int .i64 d.dc, .int .i64 d.n]] w (RetCE w (leafX u o d).1 (leafX u o d).2.1 (leafX u o d).2.2) := by
  have HC : Hid (∀ w', Below w.heap.size w w' → u.rd w' w'.heap.size ve vk) := fun w' hb => rd_below hb hb.size _ _ _ h
  obtain ⟨A3, n3, A4, n4, rfl, rfl⟩ := rd_shape h
  obtain ⟨A5, n5, rfl, _⟩ := hp
  obtain ⟨oa, on, os⟩ := ho
  obtain ⟨path, act, s, n⟩ := o
  simp only at oa on os ⊢
  have hb0 := ((((Below.refl w.heap.size w).alloc (Nat.le_refl _) (.cells #[.slice A3 u.es.length n3, .slice A4 u.ks.length n4] 25)).alloc (by simp) (.cells #[.slice A5 path.length n5, .int .i64 act, .string s, .int .i64 n] 67)).alloc (by simp; omega) (.cells #[.int .i64 d.dc, .int .i64 d.n] 52)).alloc (by simp; omega) (.cells #[.slice none 0 0, .slice none 0 0, .slice none 0 0] 29)
  have HX : Hid (∀ W, Below (w.heap.size + 4) ((((w.alloc (.cells #[.slice A3 u.es.length n3, .slice A4 u.ks.length n4] 25)).alloc (.cells #[.slice A5 path.length n5, .int .i64 act, .string s, .int .i64 n] 67)).alloc (.cells #[.int .i64 d.dc, .int .i64 d.n] 52)).alloc (.cells #[.slice none 0 0, .slice none 0 0, .slice none 0 0] 29)) W →
      (Below w.heap.size w W ∧ W.cell? ⟨w.heap.size, 0, none⟩ = some (.slice A3 u.es.length n3) ∧ W.cell? ⟨w.heap.size, 1, none⟩ = some (.slice A4 u.ks.length n4) ∧ W.cell? ⟨w.heap.size + 1, 0, none⟩ = some (.slice A5 path.length n5) ∧ W.cell? ⟨w.heap.size + 1, 1, none⟩ = some (.int .i64 act) ∧ W.cell? ⟨w.heap.size + 1, 2, none⟩ = some (.string s) ∧ W.cell? ⟨w.heap.size + 1, 3, none⟩ = some (.int .i64 n) ∧
        W.cell? ⟨w.heap.size + 2, 0, none⟩ = some (.int .i64 d.dc) ∧ W.cell? ⟨w.heap.size + 2, 1, none⟩ = some (.int .i64 d.n) ∧ W.heap[w.heap.size + 3]? = some (.cells #[.slice none 0 0, .slice none 0 0, .slice none 0 0] 29 (0, 0)))) := fun W hW => by
    have g0 : W.heap[w.heap.size]? = some (.cells #[.slice A3 u.es.length n3, .slice A4 u.ks.length n4] 25 (0, 0)) := (hW.block _ (by omega)).trans ((heap_old (by simp <;> omega)).trans ((heap_old (by simp <;> omega)).trans ((heap_old (by simp)).trans (heap_new rfl))))
    have g1 : W.heap[w.heap.size + 1]? = some (.cells #[.slice A5 path.length n5, .int .i64 act, .string s, .int .i64 n] 67 (0, 0)) := (hW.block _ (by omega)).trans ((heap_old (by simp <;> omega)).trans ((heap_old (by simp)).trans (heap_new (by simp))))
    have g2 : W.heap[w.heap.size + 2]? = some (.cells #[.int .i64 d.dc, .int .i64 d.n] 52 (0, 0)) := (hW.block _ (by omega)).trans ((heap_old (by simp)).trans (heap_new (by simp)))
    have g3 : W.heap[w.heap.size + 3]? = some (.cells #[.slice none 0 0, .slice none 0 0, .slice none 0 0] 29 (0, 0)) := (hW.block _ (by omega)).trans (heap_new (by simp))
    exact ⟨hb0.trans (hW.mono (by omega)), cell_cells (i := 0) g0, cell_cells (i := 1) g0, cell_cells (i := 0) g1, cell_cells (i := 1) g1, cell_cells (i := 2) g1, cell_cells (i := 3) g1, cell_cells (i := 0) g2, cell_cells (i := 1) g2, g3⟩
  clear h
  by_cases a1 : act = 1
  · subst a1
    rw [leafX_1 rfl]
    go_enter Tryz.func138, Tryz.ntmps138
    obtain ⟨hB0, c0, c1, p0, p1, p2, p3, d0, d1, g3⟩ := HX.out _ (Below.refl _ _)
    clear g3
    go_wp2_with fail
    refine (fenable_any u d _ _ _ (HC.out _ hb0) (by omega) hd).mono ?_
    rintro e w1 ⟨ve1, vk1, vc1, rfl, hrd1, hsl1, hb1⟩
    obtain ⟨Av, nv, Aw, nw, rfl, rfl⟩ := rda_shape hrd1
    obtain ⟨Ac, nc, rfl⟩ := hsl1.shape
    simp only [World.size_alloc] at hrd1 hsl1 hb1
    have hBx : Below (w.heap.size + 4) _ w1 := hb1.mono (by omega)
    clear c0 c1 p0 p1 p2 p3 d0 d1
    obtain ⟨hB1, c0, c1, p0, p1, p2, p3, d0, d1, hG⟩ := HX.out _ hBx
    have HG := hid hG
    have k0 := cell_cells (i := 0) hG
    have k1 := cell_cells (i := 1) hG
    have k2 := cell_cells (i := 2) hG
    simp only [List.getElem?_toArray, List.getElem?_cons_zero, List.getElem?_cons_succ] at k0 k1 k2
    have z0 := cells_frz (i := 0) hG
    have z1 := cells_frz (i := 1) hG
    have z2 := cells_frz (i := 2) hG
    have HR := hid hrd1
    have HS := hid hsl1
    have HB := hid hB1
    clear hrd1 hsl1 hb1 hBx hG hB1 c0 c1 p0 p1 p2 p3 d0 d1
    go_wp2_with fail
    obtain ⟨r0, r1, r2, q1, q2, q3⟩ := box_fin HG.out HB.out (by omega) (by omega) HR.out HS.out
    exact bodyPost_ret (v := .tuple #[.agg #[_, _, _], .int .i64 _]) (by simp [results, Tryz.results138, go_sem, r0, r1, r2] <;> rfl) rfl ⟨_, _, _, rfl, q1, q2, q3⟩
  by_cases a2 : act = 2
  · subst a2
    rw [leafX_2 rfl]
    go_enter Tryz.func138, Tryz.ntmps138
    obtain ⟨hB0, c0, c1, p0, p1, p2, p3, d0, d1, g3⟩ := HX.out _ (Below.refl _ _)
    clear g3
    go_wp2_with fail
    refine (fdisable_any u d _ _ _ (HC.out _ hb0) (by omega) hd).mono ?_
    rintro e w1 ⟨ve1, vk1, vc1, rfl, hrd1, hsl1, hb1⟩
    obtain ⟨Av, nv, Aw, nw, rfl, rfl⟩ := rda_shape hrd1
    obtain ⟨Ac, nc, rfl⟩ := hsl1.shape
    simp only [World.size_alloc] at hrd1 hsl1 hb1
    have hBx : Below (w.heap.size + 4) _ w1 := hb1.mono (by omega)
    clear c0 c1 p0 p1 p2 p3 d0 d1
    obtain ⟨hB1, c0, c1, p0, p1, p2, p3, d0, d1, hG⟩ := HX.out _ hBx
    have HG := hid hG
    have k0 := cell_cells (i := 0) hG
    have k1 := cell_cells (i := 1) hG
    have k2 := cell_cells (i := 2) hG
    simp only [List.getElem?_toArray, List.getElem?_cons_zero, List.getElem?_cons_succ] at k0 k1 k2
    have z0 := cells_frz (i := 0) hG
    have z1 := cells_frz (i := 1) hG
    have z2 := cells_frz (i := 2) hG
    have HR := hid hrd1
    have HS := hid hsl1
    have HB := hid hB1
    clear hrd1 hsl1 hb1 hBx hG hB1 c0 c1 p0 p1 p2 p3 d0 d1
    go_wp2_with fail
    obtain ⟨r0, r1, r2, q1, q2, q3⟩ := box_fin HG.out HB.out (by omega) (by omega) HR.out HS.out
    exact bodyPost_ret (v := .tuple #[.agg #[_, _, _], .int .i64 _]) (by simp [results, Tryz.results138, go_sem, r0, r1, r2] <;> rfl) rfl ⟨_, _, _, rfl, q1, q2, q3⟩
  by_cases a3 : act = 3
  · subst a3
    rw [leafX_3 rfl]
    go_enter Tryz.func138, Tryz.ntmps138
    obtain ⟨hB0, c0, c1, p0, p1, p2, p3, d0, d1, g3⟩ := HX.out _ (Below.refl _ _)
    clear g3
    go_wp2_with fail
    refine (sadd_any u s d _ _ _ (HC.out _ hb0) os (by omega) hd).mono ?_
    rintro e w1 ⟨ve1, vk1, vc1, rfl, hrd1, hsl1, hb1⟩
    obtain ⟨Av, nv, Aw, nw, rfl, rfl⟩ := rda_shape hrd1
    obtain ⟨Ac, nc, rfl⟩ := hsl1.shape
    simp only [World.size_alloc] at hrd1 hsl1 hb1
    have hBx : Below (w.heap.size + 4) _ w1 := hb1.mono (by omega)
    clear c0 c1 p0 p1 p2 p3 d0 d1
    obtain ⟨hB1, c0, c1, p0, p1, p2, p3, d0, d1, hG⟩ := HX.out _ hBx
    have HG := hid hG
    have k0 := cell_cells (i := 0) hG
    have k1 := cell_cells (i := 1) hG
    have k2 := cell_cells (i := 2) hG
    simp only [List.getElem?_toArray, List.getElem?_cons_zero, List.getElem?_cons_succ] at k0 k1 k2
    have z0 := cells_frz (i := 0) hG
    have z1 := cells_frz (i := 1) hG
    have z2 := cells_frz (i := 2) hG
    have HR := hid hrd1
    have HS := hid hsl1
    have HB := hid hB1
    clear hrd1 hsl1 hb1 hBx hG hB1 c0 c1 p0 p1 p2 p3 d0 d1
    go_wp2_with fail
    obtain ⟨r0, r1, r2, q1, q2, q3⟩ := box_fin HG.out HB.out (by omega) (by omega) HR.out HS.out
    exact bodyPost_ret (v := .tuple #[.agg #[_, _, _], .int .i64 _]) (by simp [results, Tryz.results138, go_sem, r0, r1, r2] <;> rfl) rfl ⟨_, _, _, rfl, q1, q2, q3⟩
  by_cases a4 : act = 4
  · subst a4
    rw [leafX_4 rfl]
    go_enter Tryz.func138, Tryz.ntmps138
    obtain ⟨hB0, c0, c1, p0, p1, p2, p3, d0, d1, g3⟩ := HX.out _ (Below.refl _ _)
    clear g3
    go_wp2_with fail
    refine (sdel_any u s d _ _ _ (HC.out _ hb0) os (by omega) hd).mono ?_
    rintro e w1 ⟨ve1, vk1, vc1, rfl, hrd1, hsl1, hb1⟩
    obtain ⟨Av, nv, Aw, nw, rfl, rfl⟩ := rda_shape hrd1
    obtain ⟨Ac, nc, rfl⟩ := hsl1.shape
    simp only [World.size_alloc] at hrd1 hsl1 hb1
    have hBx : Below (w.heap.size + 4) _ w1 := hb1.mono (by omega)
    clear c0 c1 p0 p1 p2 p3 d0 d1
    obtain ⟨hB1, c0, c1, p0, p1, p2, p3, d0, d1, hG⟩ := HX.out _ hBx
    have HG := hid hG
    have k0 := cell_cells (i := 0) hG
    have k1 := cell_cells (i := 1) hG
    have k2 := cell_cells (i := 2) hG
    simp only [List.getElem?_toArray, List.getElem?_cons_zero, List.getElem?_cons_succ] at k0 k1 k2
    have z0 := cells_frz (i := 0) hG
    have z1 := cells_frz (i := 1) hG
    have z2 := cells_frz (i := 2) hG
    have HR := hid hrd1
    have HS := hid hsl1
    have HB := hid hB1
    clear hrd1 hsl1 hb1 hBx hG hB1 c0 c1 p0 p1 p2 p3 d0 d1
    go_wp2_with fail
    obtain ⟨r0, r1, r2, q1, q2, q3⟩ := box_fin HG.out HB.out (by omega) (by omega) HR.out HS.out
    exact bodyPost_ret (v := .tuple #[.agg #[_, _, _], .int .i64 _]) (by simp [results, Tryz.results138, go_sem, r0, r1, r2] <;> rfl) rfl ⟨_, _, _, rfl, q1, q2, q3⟩
  by_cases a5 : act = 5
  · subst a5
    rw [leafX_5 rfl]
    go_enter Tryz.func138, Tryz.ntmps138
    obtain ⟨hB0, c0, c1, p0, p1, p2, p3, d0, d1, g3⟩ := HX.out _ (Below.refl _ _)
    clear g3
    go_wp2_with fail
    refine (cinc_any u n d _ _ _ (HC.out _ hb0) (by omega) on hd).mono ?_
    rintro e w1 ⟨ve1, vk1, vc1, rfl, hrd1, hsl1, hb1⟩
    obtain ⟨Av, nv, Aw, nw, rfl, rfl⟩ := rda_shape hrd1
    obtain ⟨Ac, nc, rfl⟩ := hsl1.shape
    simp only [World.size_alloc] at hrd1 hsl1 hb1
    have hBx : Below (w.heap.size + 4) _ w1 := hb1.mono (by omega)
    clear c0 c1 p0 p1 p2 p3 d0 d1
    obtain ⟨hB1, c0, c1, p0, p1, p2, p3, d0, d1, hG⟩ := HX.out _ hBx
    have HG := hid hG
    have k0 := cell_cells (i := 0) hG
    have k1 := cell_cells (i := 1) hG
    have k2 := cell_cells (i := 2) hG
    simp only [List.getElem?_toArray, List.getElem?_cons_zero, List.getElem?_cons_succ] at k0 k1 k2
    have z0 := cells_frz (i := 0) hG
    have z1 := cells_frz (i := 1) hG
    have z2 := cells_frz (i := 2) hG
    have HR := hid hrd1
    have HS := hid hsl1
    have HB := hid hB1
    clear hrd1 hsl1 hb1 hBx hG hB1 c0 c1 p0 p1 p2 p3 d0 d1
    go_wp2_with fail
    obtain ⟨r0, r1, r2, q1, q2, q3⟩ := box_fin HG.out HB.out (by omega) (by omega) HR.out HS.out
    exact bodyPost_ret (v := .tuple #[.agg #[_, _, _], .int .i64 _]) (by simp [results, Tryz.results138, go_sem, r0, r1, r2] <;> rfl) rfl ⟨_, _, _, rfl, q1, q2, q3⟩
  by_cases a6 : act = 6
  · subst a6
    rw [leafX_6 rfl]
    go_enter Tryz.func138, Tryz.ntmps138
    obtain ⟨hB0, c0, c1, p0, p1, p2, p3, d0, d1, g3⟩ := HX.out _ (Below.refl _ _)
    clear g3
    go_wp2_with fail
    refine (rwrite_any u s d _ _ _ (HC.out _ hb0) os (by omega) hd).mono ?_
    rintro e w1 ⟨ve1, vk1, vc1, rfl, hrd1, hsl1, hb1⟩
    obtain ⟨Av, nv, Aw, nw, rfl, rfl⟩ := rda_shape hrd1
    obtain ⟨Ac, nc, rfl⟩ := hsl1.shape
    simp only [World.size_alloc] at hrd1 hsl1 hb1
    have hBx : Below (w.heap.size + 4) _ w1 := hb1.mono (by omega)
    clear c0 c1 p0 p1 p2 p3 d0 d1
    obtain ⟨hB1, c0, c1, p0, p1, p2, p3, d0, d1, hG⟩ := HX.out _ hBx
    have HG := hid hG
    have k0 := cell_cells (i := 0) hG
    have k1 := cell_cells (i := 1) hG
    have k2 := cell_cells (i := 2) hG
    simp only [List.getElem?_toArray, List.getElem?_cons_zero, List.getElem?_cons_succ] at k0 k1 k2
    have z0 := cells_frz (i := 0) hG
    have z1 := cells_frz (i := 1) hG
    have z2 := cells_frz (i := 2) hG
    have HR := hid hrd1
    have HS := hid hsl1
    have HB := hid hB1
    clear hrd1 hsl1 hb1 hBx hG hB1 c0 c1 p0 p1 p2 p3 d0 d1
    go_wp2_with fail
    obtain ⟨r0, r1, r2, q1, q2, q3⟩ := box_fin HG.out HB.out (by omega) (by omega) HR.out HS.out
    exact bodyPost_ret (v := .tuple #[.agg #[_, _, _], .int .i64 _]) (by simp [results, Tryz.results138, go_sem, r0, r1, r2] <;> rfl) rfl ⟨_, _, _, rfl, q1, q2, q3⟩
  · have hX : leafX u ⟨path, act, s, n⟩ d = (.mk [] [], disC u d, chkI u d) := by unfold leafX; rw [if_neg a1, if_neg a2, if_neg a3, if_neg a4, if_neg a5, if_neg a6]
    rw [hX]
    have e1 : (act == 1) = false := by simpa using a1
    have e2 : (act == 2) = false := by simpa using a2
    have e3 : (act == 3) = false := by simpa using a3
    have e4 : (act == 4) = false := by simpa using a4
    have e5 : (act == 5) = false := by simpa using a5
    have e6 : (act == 6) = false := by simpa using a6
    go_enter Tryz.func138, Tryz.ntmps138
    obtain ⟨hB0, c0, c1, p0, p1, p2, p3, d0, d1, g3⟩ := HX.out _ (Below.refl _ _)
    clear g3
    go_wp2_with fail
    refine (oreset_any u d _ _ _ (HC.out _ hb0) (by omega) hd).mono ?_
    rintro e w1 ⟨ve1, vk1, vc1, rfl, hrd1, hsl1, hb1⟩
    obtain ⟨Av, nv, Aw, nw, rfl, rfl⟩ := rda_shape hrd1
    obtain ⟨Ac, nc, rfl⟩ := hsl1.shape
    simp only [World.size_alloc] at hrd1 hsl1 hb1
    have hBx : Below (w.heap.size + 4) _ w1 := hb1.mono (by omega)
    clear c0 c1 p0 p1 p2 p3 d0 d1
    obtain ⟨hB1, c0, c1, p0, p1, p2, p3, d0, d1, hG⟩ := HX.out _ hBx
    have HG := hid hG
    have k0 := cell_cells (i := 0) hG
    have k1 := cell_cells (i := 1) hG
    have k2 := cell_cells (i := 2) hG
    simp only [List.getElem?_toArray, List.getElem?_cons_zero, List.getElem?_cons_succ] at k0 k1 k2
    have z0 := cells_frz (i := 0) hG
    have z1 := cells_frz (i := 1) hG
    have z2 := cells_frz (i := 2) hG
    have HR := hid hrd1
    have HS := hid hsl1
    have HB := hid hB1
    clear hrd1 hsl1 hb1 hBx hG hB1 c0 c1 p0 p1 p2 p3 d0 d1
    go_wp2_with fail
    obtain ⟨r0, r1, r2, q1, q2, q3⟩ := box_fin HG.out HB.out (by omega) (by omega) HR.out HS.out
    exact bodyPost_ret (v := .tuple #[.agg #[_, _, _], .int .i64 _]) (by simp [results, Tryz.results138, go_sem, r0, r1, r2] <;> rfl) rfl ⟨_, _, _, rfl, q1, q2, q3⟩
end Go.Proofs.YtlapdmgjfdelnaaGreat

namespace Go.Proofs.YtlapdmgjfdelnaaGreat
open Go.RowKit
set_option maxRecDepth 100000

theorem SlP.takeK {α : Type} {w : World} {B sz : Nat} {E : α → List Value → Prop} {A : Option Addr} {c : Nat} {l : List α} (h : SlP w B sz E (.slice A l.length c) l) {k : Nat} (hk : k ≤ l.length) : SlP w B sz E (.slice A k c) (l.take k) := by
  obtain ⟨A', c', hv, h1, h2, h3⟩ := h
  cases hv
  have hl : (l.take k).length = k := by simp; omega
  refine ⟨A, c, by rw [hl], by omega, by omega, fun hn => ?_⟩
  obtain ⟨b, off, rfl, hB, hc⟩ := h3 (by rintro rfl; simp at hn)
  refine ⟨b, off, rfl, hB, fun j x hx => hc j x ?_⟩
  rw [List.getElem?_take] at hx
  split at hx
  · exact hx
  · cases hx
def ofI (a : Int) : Int := if a = 1 ∨ a = 2 then 1 else if a = 3 ∨ a = 4 then 2 else if a = 5 then 3 else if a = 6 then 4 else if a = 7 then 0 else -1
theorem of_any (a : Int) (w : World) : Calls Tryz.prog 183 #[.int .i64 a] w fun e w' => e = .returned (.int .i64 (ofI a)) ∧ Below w.heap.size w w' := by
  by_cases hc : a = 1 ∨ a = 2 ∨ a = 3 ∨ a = 4 ∨ a = 5 ∨ a = 6 ∨ a = 7
  · rcases hc with rfl | rfl | rfl | rfl | rfl | rfl | rfl <;>
    (go_enter Tryz.func183, Tryz.ntmps183
     go_wp2_with fail
     go_ret
     exact ⟨rfl, Below.refl _ _⟩)
  · obtain ⟨g1, g2, g3, g4, g5, g6, g7⟩ : a ≠ 1 ∧ a ≠ 2 ∧ a ≠ 3 ∧ a ≠ 4 ∧ a ≠ 5 ∧ a ≠ 6 ∧ a ≠ 7 := by omega
    have hO : ofI a = -1 := by unfold ofI; rw [if_neg (by omega), if_neg (by omega), if_neg (by omega), if_neg (by omega), if_neg (by omega)]
    rw [hO]
    have d1 : decide (a = 1) = false := by simpa using g1
    have d2 : decide (a = 2) = false := by simpa using g2
    have d3 : decide (a = 3) = false := by simpa using g3
    have d4 : decide (a = 4) = false := by simpa using g4
    have d5 : decide (a = 5) = false := by simpa using g5
    have d6 : decide (a = 6) = false := by simpa using g6
    have d7 : decide (a = 7) = false := by simpa using g7
    have e1 : (a == 1) = false := by simpa using g1
    have e2 : (a == 2) = false := by simpa using g2
    have e3 : (a == 3) = false := by simpa using g3
    have e4 : (a == 4) = false := by simpa using g4
    have e5 : (a == 5) = false := by simpa using g5
    have e6 : (a == 6) = false := by simpa using g6
    have e7 : (a == 7) = false := by simpa using g7
    clear hc
    go_enter Tryz.func183, Tryz.ntmps183
    go_wp2_with fail
    go_ret
    exact ⟨rfl, Below.refl _ _⟩
theorem kindB_get {k : ByteArray} (h : 0 < k.size) : kindB k = if ((k[0].toNat : Int) == 102) = true then 1 else if ((k[0].toNat : Int) == 115) = true then 2 else if ((k[0].toNat : Int) == 99) = true then 3 else if ((k[0].toNat : Int) == 114) = true then 4 else if ((k[0].toNat : Int) == 109) = true then 5 else 0 := by
  obtain ⟨⟨l⟩⟩ := k
  cases l with
  | nil => exact absurd h (by decide)
  | cons b r =>
    have hb : ∀ n : UInt8, (((b.toNat : Int) == ((n.toNat : Nat) : Int)) = true) = (b = n) := fun n => by rw [eq_iff_iff, beq_iff_eq]; exact ⟨fun h => UInt8.toNat_inj.1 (by omega), fun h => by rw [h]⟩
    have e0 : (ByteArray.mk ⟨b :: r⟩)[0] = b := rfl
    have h1 := hb 102
    have h2 := hb 115
    have h3 := hb 99
    have h4 := hb 114
    have h5 := hb 109
    rw [e0]
    unfold kindB
    simp only [show ((102 : UInt8).toNat : Int) = 102 from rfl, show ((115 : UInt8).toNat : Int) = 115 from rfl, show ((99 : UInt8).toNat : Int) = 99 from rfl, show ((114 : UInt8).toNat : Int) = 114 from rfl, show ((109 : UInt8).toNat : Int) = 109 from rfl] at h1 h2 h3 h4 h5
    simp only [h1, h2, h3, h4, h5]
theorem kindB_no {k : ByteArray} (h : ¬ 0 < k.size) : kindB k = 0 := by
  obtain ⟨⟨l⟩⟩ := k
  cases l with
  | nil => rfl
  | cons b r => exact absurd (show 0 < (b :: r).length by simp) h
theorem toList_some {k : ByteArray} (h : 0 < k.size) : k.toList.isEmpty = false := by
  rw [ByteArray.toList_eq]
  obtain ⟨⟨l⟩⟩ := k
  cases l with
  | nil => exact absurd h (by decide)
  | cons b r => rfl
theorem toList_none {k : ByteArray} (h : ¬ 0 < k.size) : k.toList.isEmpty = true := by
  rw [ByteArray.toList_eq]
  obtain ⟨⟨l⟩⟩ := k
  cases l with
  | nil => rfl
  | cons b r => exact absurd (show 0 < (b :: r).length by simp) h
theorem opKind_any (k : ByteArray) (w : World) :
    Calls Tryz.prog 90 #[.string k] w fun e w' => e = .returned (.int .i64 (kindB k)) ∧ Below w.heap.size w w' := by
  by_cases h0 : 0 < k.size
  · have HK := hid (kindB_get h0)
    have he : k.toList.isEmpty = false := toList_some h0
    go_enter Tryz.func90, Tryz.ntmps90
    go_wp2_with fail
    all_goals (go_ret; exact ⟨ret_int (by rw [HK.out]; simp_all), Below.refl _ _⟩)
  · rw [kindB_no h0]
    have he : k.toList.isEmpty = true := toList_none h0
    go_enter Tryz.func90, Tryz.ntmps90
    go_wp2_with fail
    all_goals (go_ret; exact ⟨rfl, Below.refl _ _⟩)
end Go.Proofs.YtlapdmgjfdelnaaGreat

namespace Go.Proofs.YtlapdmgjfdelnaaGreat
open Go.RowKit
set_option maxRecDepth 100000

theorem cp1_any (x : ByteArray) (w : World) (hx : x.size ≤ Big) : Calls Tryz.prog 147 #[.string x] w fun e w' => e = .returned (.bool (badKey x)) ∧ Below w.heap.size w w' := by
  unfold Big at hx
  go_enter Tryz.func147, Tryz.ntmps147
  by_cases hb : 30 < x.size
  · go_wp2_with fail
    go_ret
    exact ⟨ret_bool (by unfold badKey; simp [hb]), Below.refl _ _⟩
  · go_wp2_with fail
    refine (opKind_any x _).mono ?_
    rintro e w1 ⟨rfl, hb1⟩
    go_wp2_with fail
    go_ret
    exact ⟨ret_bool (by unfold badKey; rw [Bool.eq_iff_iff]; simp [hb]; omega), hb1⟩
theorem cp2_any (x : ByteArray) (w : World) : Calls Tryz.prog 148 #[.string x] w fun e w' => e = .returned (.bool (noMap x)) ∧ Below w.heap.size w w' := by
  go_enter Tryz.func148, Tryz.ntmps148
  go_wp2_with fail
  refine (opKind_any x _).mono ?_
  rintro e w1 ⟨rfl, hb1⟩
  go_wp2_with fail
  go_ret
  exact ⟨ret_bool (by unfold noMap; rw [Bool.eq_iff_iff]; simp), hb1⟩
theorem cp1_test (w : World) : TestStr 147 #[] badKey w := ⟨enters_of Tryz.func147 (by kernel_rfl) rfl, fun x W hx _ => cp1_any x W hx⟩
theorem cp2_test (w : World) : TestStr 148 #[] noMap w := ⟨enters_of Tryz.func148 (by kernel_rfl) rfl, fun x W _ _ => cp2_any x W⟩
set_option maxHeartbeats 1000000 in
theorem checkPath_any (p : List ByteArray) (vp : Value) (w : World) (h : SlP w w.heap.size 1 StE vp p) :
    Calls Tryz.prog 88 #[vp] w fun e w' => e = .returned (.int .i64 (pathI p)) ∧ Below w.heap.size w w' := by
  have HC : Hid (∀ w', Below w.heap.size w w' → SlP w' w'.heap.size 1 StE vp p) := fun w' hb => h.imp hb hb.size fun _ _ _ h => h
  obtain ⟨A, c, rfl, c1, c2, _⟩ := h
  unfold Big at c2
  go_enter Tryz.func88, Tryz.ntmps88
  by_cases h1 : p.length < 1
  · have hP : pathI p = 1 := by unfold pathI; rw [if_pos (.inl h1)]
    rw [hP]
    clear hP
    go_wp2_with fail
    go_ret
    exact ⟨rfl, Below.refl _ _⟩
  by_cases h3 : 3 < p.length
  · have hP : pathI p = 1 := by unfold pathI; rw [if_pos (.inr (.inl h3))]
    rw [hP]
    clear hP
    go_wp2_with fail
    go_ret
    exact ⟨rfl, Below.refl _ _⟩
  go_wp2_with fail
  refine (conStr_any badKey _ #[] p _ _ (HC.out _ (Below.refl _ _)) (cp1_test _)).mono ?_
  cases hq : p.any badKey
  · rintro e w1 ⟨rfl, hb1⟩
    have hP : pathI p = if p.dropLast.any noMap then 6 else 0 := by unfold pathI; rw [if_neg (by rintro (h | h | h) <;> first | omega | (rw [hq] at h; cases h))]
    have HPI := hid hP
    have HP : Hid (SlP w1 w1.heap.size 1 StE (.slice A (p.length - 1) c) p.dropLast) := by
      rw [List.dropLast_eq_take]
      exact (HC.out _ hb1).takeK (by omega)
    clear hP hq
    go_wp2_with fail
    refine (conStr_any noMap _ #[] p.dropLast _ _ HP.out (cp2_test _)).mono ?_
    cases hn : p.dropLast.any noMap
    · rintro e w2 ⟨rfl, hb2⟩
      have HN := hid hn
      clear hn
      go_wp2_with fail
      go_ret
      exact ⟨ret_int (by rw [HPI.out, HN.out]; rfl), hb1.trans (hb2.mono hb1.size)⟩
    · rintro e w2 ⟨rfl, hb2⟩
      have HN := hid hn
      clear hn
      go_wp2_with fail
      go_ret
      exact ⟨ret_int (by rw [HPI.out, HN.out]; rfl), hb1.trans (hb2.mono hb1.size)⟩
  · rintro e w1 ⟨rfl, hb1⟩
    have hP : pathI p = 1 := by unfold pathI; rw [if_pos (.inr (.inr hq))]
    have HPI := hid hP
    clear hP hq
    go_wp2_with fail
    go_ret
    exact ⟨ret_int HPI.out.symm, hb1⟩
theorem chk_err {path : List ByteArray} {act n : Int} {s : ByteArray} (hp : pathI path = 0) (ha : actB act (kindB (lastK path)) = true) : opI ⟨path, act, s, n⟩ = if opTxt ⟨path, act, s, n⟩ && opNum ⟨path, act, s, n⟩ then 0 else 1 := by
  unfold opI
  simp only
  rw [if_neg (by omega), ha]; rfl
theorem tol_nil (s : ByteArray) : (s.toList = []) = (s.size = 0) := by
  rw [eq_iff_iff]
  by_cases h : s.size = 0
  · have := toList_none (k := s) (by omega); rw [List.isEmpty_iff] at this; simp [this, h]
  · have := toList_some (k := s) (by omega); rw [← Bool.not_eq_true, List.isEmpty_iff] at this; exact ⟨fun e => absurd e this, fun e => absurd e h⟩
theorem tol_f (s : ByteArray) : (s.toList.isEmpty = false) = (s.size ≠ 0) := by rw [← Bool.not_eq_true, List.isEmpty_iff, tol_nil]
theorem tol_t (s : ByteArray) : (s.toList.isEmpty = true) = (s.size = 0) := by rw [List.isEmpty_iff, tol_nil]
set_option maxHeartbeats 8000000 in
theorem check_any (o : Opr) (vp : Value) (w : World) (h : SlP w w.heap.size 1 StE vp o.path) (ho : o.Ok) :
    Calls Tryz.prog 137 #[.agg #[vp, .int .i64 o.act, .string o.s, .int .i64 o.n]] w fun e w' => e = .returned (.int .i64 (opI o)) ∧ Below w.heap.size w w' := by
  have HC : Hid (∀ w', Below w.heap.size w w' → SlP w' w'.heap.size 1 StE vp o.path) := fun w' hb => h.imp hb hb.size fun _ _ _ h => h
  obtain ⟨A, c, rfl, c1, c2, c3⟩ := h
  have hs := ho.s
  unfold Big at c2 hs
  obtain ⟨path, act, s, n⟩ := o
  simp only at HC c1 c2 c3 hs ⊢
  have HX : Hid (∀ W, Below (w.heap.size + 1) (w.alloc (.cells #[.slice A path.length c, .int .i64 act, .string s, .int .i64 n] 67)) W → (Below w.heap.size w W ∧ SlP W W.heap.size 1 StE (.slice A path.length c) path ∧ W.cell? ⟨w.heap.size, 0, none⟩ = some (.slice A path.length c) ∧ W.cell? ⟨w.heap.size, 1, none⟩ = some (.int .i64 act) ∧ W.cell? ⟨w.heap.size, 2, none⟩ = some (.string s) ∧ W.cell? ⟨w.heap.size, 3, none⟩ = some (.int .i64 n))) := fun W hW => by
    have g0 : W.heap[w.heap.size]? = some (.cells #[.slice A path.length c, .int .i64 act, .string s, .int .i64 n] 67 (0, 0)) := (hW.block _ (by omega)).trans (heap_new rfl)
    have hB : Below w.heap.size w W := ((Below.refl _ w).alloc (Nat.le_refl _) _).trans (hW.mono (by omega))
    exact ⟨hB, HC.out _ hB, cell_cells (i := 0) g0, cell_cells (i := 1) g0, cell_cells (i := 2) g0, cell_cells (i := 3) g0⟩
  go_enter Tryz.func137, Tryz.ntmps137
  go_wp2_with fail
  obtain ⟨hB, hp, q0, q1, q2, q3⟩ := HX.out _ (Below.refl _ _)
  refine (checkPath_any path _ _ hp).mono ?_
  rintro e w1 ⟨rfl, hb1⟩
  have hbx : Below (w.heap.size + 1) (w.alloc (.cells #[.slice A path.length c, .int .i64 act, .string s, .int .i64 n] 67)) w1 := hb1.mono (by simp)
  have HB1 := hid hbx
  clear hB hp q0 q1 q2 q3 hb1 hbx
  obtain ⟨hB, hp, q0, q1, q2, q3⟩ := HX.out _ HB1.out
  by_cases hpz : pathI path = 0
  · have hpl := (path_ok hpz).1
    have hpu := (path_ok hpz).2.1
    have HPZ := hid hpz
    rw [hpz]
    clear hpz
    go_wp2_with fail
    refine (of_any act _).mono ?_
    rintro e w2 ⟨rfl, hb2⟩
    have HB2 := hid (HB1.out.trans (hb2.mono (by have := hB.size; have := HB1.out.size; simp at this; omega)))
    clear hB hp q0 q1 q2 q3 hb2
    obtain ⟨hB, hp, q0, q1, q2, q3⟩ := HX.out _ HB2.out
    rcases (show act = 1 ∨ act = 2 ∨ act = 3 ∨ act = 4 ∨ act = 5 ∨ act = 6 ∨ act = 7 ∨ (act ≠ 1 ∧ act ≠ 2 ∧ act ≠ 3 ∧ act ≠ 4 ∧ act ≠ 5 ∧ act ≠ 6 ∧ act ≠ 7) by omega) with rfl | rfl | rfl | rfl | rfl | rfl | rfl | ⟨g1, g2, g3, g4, g5, g6, g7⟩
    · simp only [show ofI 1 = 1 from rfl]
      obtain ⟨bq, offq, hAq, hbq, hcq⟩ := c3 (by rintro rfl; simp at hpl)
      cases hAq
      obtain ⟨cs, ⟨rfl, hok⟩, _, hu⟩ := hcq (path.length - 1) _ (last_at hpl)
      have e0 := (hB.cell (p := ⟨bq, offq + (path.length - 1), none⟩) hbq).trans (by simpa using hu 0 _ rfl)
      clear hu hcq c3
      go_wp2_with fail
      refine (opKind_any (lastK path) _).mono ?_
      by_cases hk : kindB (lastK path) = 1
      · rw [hk]
        rintro e w3 ⟨rfl, hb3⟩
        have HA : Hid (actB 1 (kindB (lastK path)) = true) := by unfold Hid actB; rw [hk]; simp
        have HB3 := hid (HB2.out.trans (hb3.mono (by have := hB.size; have := HB2.out.size; simp at this; omega)))
        clear hB hp q0 q1 q2 q3 hb3 e0 hk
        obtain ⟨hB, hp, q0, q1, q2, q3⟩ := HX.out _ HB3.out
        have HE : Hid (∀ (s : ByteArray) (n : Int), opI ⟨path, 1, s, n⟩ = if s.size = 0 ∧ n = 0 then 0 else 1) := by
          intro s n
          rw [chk_err HPZ.out HA.out]
          unfold opTxt opNum keyB
          simp
        go_wp2_with fail
        all_goals (go_ret; refine ⟨ret_int ?_, hB⟩; rw [HE.out])
        all_goals ((try simp only [tol_nil] at *); (try simp only [tol_f] at *); (try simp only [tol_t] at *))
        all_goals (first | (exfalso; omega) | (rw [if_pos (by omega)]; done) | (rw [if_neg (by omega)]; done))
      · have hn : ((1 : Int) == kindB (lastK path)) = false := by simpa using fun h => hk h.symm
        have HO : Hid (opI ⟨path, 1, s, n⟩ = 6) := by unfold Hid opI; simp only; rw [if_neg (by rw [HPZ.out]; simp), if_pos (by unfold actB; simp [hk])]
        rintro e w3 ⟨rfl, hb3⟩
        have hB3 := hB.trans (hb3.mono hB.size)
        clear hk
        go_wp2_with fail
        go_ret
        exact ⟨ret_int HO.out.symm, hB3⟩
    · simp only [show ofI 2 = 1 from rfl]
      obtain ⟨bq, offq, hAq, hbq, hcq⟩ := c3 (by rintro rfl; simp at hpl)
      cases hAq
      obtain ⟨cs, ⟨rfl, hok⟩, _, hu⟩ := hcq (path.length - 1) _ (last_at hpl)
      have e0 := (hB.cell (p := ⟨bq, offq + (path.length - 1), none⟩) hbq).trans (by simpa using hu 0 _ rfl)
      clear hu hcq c3
      go_wp2_with fail
      refine (opKind_any (lastK path) _).mono ?_
      by_cases hk : kindB (lastK path) = 1
      · rw [hk]
        rintro e w3 ⟨rfl, hb3⟩
        have HA : Hid (actB 2 (kindB (lastK path)) = true) := by unfold Hid actB; rw [hk]; simp
        have HB3 := hid (HB2.out.trans (hb3.mono (by have := hB.size; have := HB2.out.size; simp at this; omega)))
        clear hB hp q0 q1 q2 q3 hb3 e0 hk
        obtain ⟨hB, hp, q0, q1, q2, q3⟩ := HX.out _ HB3.out
        have HE : Hid (∀ (s : ByteArray) (n : Int), opI ⟨path, 2, s, n⟩ = if s.size = 0 ∧ n = 0 then 0 else 1) := by
          intro s n
          rw [chk_err HPZ.out HA.out]
          unfold opTxt opNum keyB
          simp
        go_wp2_with fail
        all_goals (go_ret; refine ⟨ret_int ?_, hB⟩; rw [HE.out])
        all_goals ((try simp only [tol_nil] at *); (try simp only [tol_f] at *); (try simp only [tol_t] at *))
        all_goals (first | (exfalso; omega) | (rw [if_pos (by omega)]; done) | (rw [if_neg (by omega)]; done))
      · have hn : ((1 : Int) == kindB (lastK path)) = false := by simpa using fun h => hk h.symm
        have HO : Hid (opI ⟨path, 2, s, n⟩ = 6) := by unfold Hid opI; simp only; rw [if_neg (by rw [HPZ.out]; simp), if_pos (by unfold actB; simp [hk])]
        rintro e w3 ⟨rfl, hb3⟩
        have hB3 := hB.trans (hb3.mono hB.size)
        clear hk
        go_wp2_with fail
        go_ret
        exact ⟨ret_int HO.out.symm, hB3⟩
    · simp only [show ofI 3 = 2 from rfl]
      obtain ⟨bq, offq, hAq, hbq, hcq⟩ := c3 (by rintro rfl; simp at hpl)
      cases hAq
      obtain ⟨cs, ⟨rfl, hok⟩, _, hu⟩ := hcq (path.length - 1) _ (last_at hpl)
      have e0 := (hB.cell (p := ⟨bq, offq + (path.length - 1), none⟩) hbq).trans (by simpa using hu 0 _ rfl)
      clear hu hcq c3
      go_wp2_with fail
      refine (opKind_any (lastK path) _).mono ?_
      by_cases hk : kindB (lastK path) = 2
      · rw [hk]
        rintro e w3 ⟨rfl, hb3⟩
        have HA : Hid (actB 3 (kindB (lastK path)) = true) := by unfold Hid actB; rw [hk]; simp
        have HB3 := hid (HB2.out.trans (hb3.mono (by have := hB.size; have := HB2.out.size; simp at this; omega)))
        clear hB hp q0 q1 q2 q3 hb3 e0 hk
        obtain ⟨hB, hp, q0, q1, q2, q3⟩ := HX.out _ HB3.out
        have HE : Hid (∀ (s : ByteArray) (n : Int), opI ⟨path, 3, s, n⟩ = if (1 ≤ s.size ∧ s.size ≤ 30) ∧ n = 0 then 0 else 1) := by
          intro s n
          rw [chk_err HPZ.out HA.out]
          unfold opTxt opNum keyB
          simp
        go_wp2_with fail
        all_goals (go_ret; refine ⟨ret_int ?_, hB⟩; rw [HE.out])
        all_goals ((try simp only [tol_f] at *); (try simp only [tol_t] at *))
        all_goals (first | (exfalso; omega) | (rw [if_pos (by omega)]; done) | (rw [if_neg (by omega)]; done))
      · have hn : ((2 : Int) == kindB (lastK path)) = false := by simpa using fun h => hk h.symm
        have HO : Hid (opI ⟨path, 3, s, n⟩ = 6) := by unfold Hid opI; simp only; rw [if_neg (by rw [HPZ.out]; simp), if_pos (by unfold actB; simp [hk])]
        rintro e w3 ⟨rfl, hb3⟩
        have hB3 := hB.trans (hb3.mono hB.size)
        clear hk
        go_wp2_with fail
        go_ret
        exact ⟨ret_int HO.out.symm, hB3⟩
    · simp only [show ofI 4 = 2 from rfl]
      obtain ⟨bq, offq, hAq, hbq, hcq⟩ := c3 (by rintro rfl; simp at hpl)
      cases hAq
      obtain ⟨cs, ⟨rfl, hok⟩, _, hu⟩ := hcq (path.length - 1) _ (last_at hpl)
      have e0 := (hB.cell (p := ⟨bq, offq + (path.length - 1), none⟩) hbq).trans (by simpa using hu 0 _ rfl)
      clear hu hcq c3
      go_wp2_with fail
      refine (opKind_any (lastK path) _).mono ?_
      by_cases hk : kindB (lastK path) = 2
      · rw [hk]
        rintro e w3 ⟨rfl, hb3⟩
        have HA : Hid (actB 4 (kindB (lastK path)) = true) := by unfold Hid actB; rw [hk]; simp
        have HB3 := hid (HB2.out.trans (hb3.mono (by have := hB.size; have := HB2.out.size; simp at this; omega)))
        clear hB hp q0 q1 q2 q3 hb3 e0 hk
        obtain ⟨hB, hp, q0, q1, q2, q3⟩ := HX.out _ HB3.out
        have HE : Hid (∀ (s : ByteArray) (n : Int), opI ⟨path, 4, s, n⟩ = if (1 ≤ s.size ∧ s.size ≤ 30) ∧ n = 0 then 0 else 1) := by
          intro s n
          rw [chk_err HPZ.out HA.out]
          unfold opTxt opNum keyB
          simp
        go_wp2_with fail
        all_goals (go_ret; refine ⟨ret_int ?_, hB⟩; rw [HE.out])
        all_goals ((try simp only [tol_f] at *); (try simp only [tol_t] at *))
        all_goals (first | (exfalso; omega) | (rw [if_pos (by omega)]; done) | (rw [if_neg (by omega)]; done))
      · have hn : ((2 : Int) == kindB (lastK path)) = false := by simpa using fun h => hk h.symm
        have HO : Hid (opI ⟨path, 4, s, n⟩ = 6) := by unfold Hid opI; simp only; rw [if_neg (by rw [HPZ.out]; simp), if_pos (by unfold actB; simp [hk])]
        rintro e w3 ⟨rfl, hb3⟩
        have hB3 := hB.trans (hb3.mono hB.size)
        clear hk
        go_wp2_with fail
        go_ret
        exact ⟨ret_int HO.out.symm, hB3⟩
    · simp only [show ofI 5 = 3 from rfl]
      obtain ⟨bq, offq, hAq, hbq, hcq⟩ := c3 (by rintro rfl; simp at hpl)
      cases hAq
      obtain ⟨cs, ⟨rfl, hok⟩, _, hu⟩ := hcq (path.length - 1) _ (last_at hpl)
      have e0 := (hB.cell (p := ⟨bq, offq + (path.length - 1), none⟩) hbq).trans (by simpa using hu 0 _ rfl)
      clear hu hcq c3
      go_wp2_with fail
      refine (opKind_any (lastK path) _).mono ?_
      by_cases hk : kindB (lastK path) = 3
      · rw [hk]
        rintro e w3 ⟨rfl, hb3⟩
        have HA : Hid (actB 5 (kindB (lastK path)) = true) := by unfold Hid actB; rw [hk]; simp
        have HB3 := hid (HB2.out.trans (hb3.mono (by have := hB.size; have := HB2.out.size; simp at this; omega)))
        clear hB hp q0 q1 q2 q3 hb3 e0 hk
        obtain ⟨hB, hp, q0, q1, q2, q3⟩ := HX.out _ HB3.out
        have HE : Hid (∀ (s : ByteArray) (n : Int), opI ⟨path, 5, s, n⟩ = if s.size = 0 ∧ -1099511627776 ≤ n ∧ n ≤ 1099511627776 then 0 else 1) := by
          intro s n
          rw [chk_err HPZ.out HA.out]
          unfold opTxt opNum keyB
          simp
        go_wp2_with fail
        all_goals (go_ret; refine ⟨ret_int ?_, hB⟩; rw [HE.out])
        all_goals ((try simp only [tol_nil] at *); (try simp only [tol_f] at *); (try simp only [tol_t] at *))
        all_goals (first | (exfalso; omega) | (rw [if_pos (by omega)]; done) | (rw [if_neg (by omega)]; done))
      · have hn : ((3 : Int) == kindB (lastK path)) = false := by simpa using fun h => hk h.symm
        have HO : Hid (opI ⟨path, 5, s, n⟩ = 6) := by unfold Hid opI; simp only; rw [if_neg (by rw [HPZ.out]; simp), if_pos (by unfold actB; simp [hk])]
        rintro e w3 ⟨rfl, hb3⟩
        have hB3 := hB.trans (hb3.mono hB.size)
        clear hk
        go_wp2_with fail
        go_ret
        exact ⟨ret_int HO.out.symm, hB3⟩
    · simp only [show ofI 6 = 4 from rfl]
      obtain ⟨bq, offq, hAq, hbq, hcq⟩ := c3 (by rintro rfl; simp at hpl)
      cases hAq
      obtain ⟨cs, ⟨rfl, hok⟩, _, hu⟩ := hcq (path.length - 1) _ (last_at hpl)
      have e0 := (hB.cell (p := ⟨bq, offq + (path.length - 1), none⟩) hbq).trans (by simpa using hu 0 _ rfl)
      clear hu hcq c3
      go_wp2_with fail
      refine (opKind_any (lastK path) _).mono ?_
      by_cases hk : kindB (lastK path) = 4
      · rw [hk]
        rintro e w3 ⟨rfl, hb3⟩
        have HA : Hid (actB 6 (kindB (lastK path)) = true) := by unfold Hid actB; rw [hk]; simp
        have HB3 := hid (HB2.out.trans (hb3.mono (by have := hB.size; have := HB2.out.size; simp at this; omega)))
        clear hB hp q0 q1 q2 q3 hb3 e0 hk
        obtain ⟨hB, hp, q0, q1, q2, q3⟩ := HX.out _ HB3.out
        have HE : Hid (∀ (s : ByteArray) (n : Int), opI ⟨path, 6, s, n⟩ = if s.size ≤ 30 ∧ n = 0 then 0 else 1) := by
          intro s n
          rw [chk_err HPZ.out HA.out]
          unfold opTxt opNum keyB
          simp
        go_wp2_with fail
        all_goals (go_ret; refine ⟨ret_int ?_, hB⟩; rw [HE.out])
        skip
        all_goals (first | (exfalso; omega) | (rw [if_pos (by omega)]; done) | (rw [if_neg (by omega)]; done))
      · have hn : ((4 : Int) == kindB (lastK path)) = false := by simpa using fun h => hk h.symm
        have HO : Hid (opI ⟨path, 6, s, n⟩ = 6) := by unfold Hid opI; simp only; rw [if_neg (by rw [HPZ.out]; simp), if_pos (by unfold actB; simp [hk])]
        rintro e w3 ⟨rfl, hb3⟩
        have hB3 := hB.trans (hb3.mono hB.size)
        clear hk
        go_wp2_with fail
        go_ret
        exact ⟨ret_int HO.out.symm, hB3⟩
    · simp only [show ofI 7 = 0 from rfl]
      have HA : Hid (actB 7 (kindB (lastK path)) = true) := rfl
      have HE : Hid (∀ (s : ByteArray) (n : Int), opI ⟨path, 7, s, n⟩ = if s.size = 0 ∧ n = 0 then 0 else 1) := by
        intro s n
        rw [chk_err HPZ.out HA.out]
        unfold opTxt opNum keyB
        simp
      go_wp2_with fail
      all_goals (go_ret; refine ⟨ret_int ?_, hB⟩; rw [HE.out])
      all_goals ((try simp only [tol_nil] at *); (try simp only [tol_f] at *); (try simp only [tol_t] at *))
      all_goals (first | (exfalso; omega) | (rw [if_pos (by omega)]; done) | (rw [if_neg (by omega)]; done))
    · have hO : ofI act = -1 := by unfold ofI; rw [if_neg (by omega), if_neg (by omega), if_neg (by omega), if_neg (by omega), if_neg (by omega)]
      rw [hO]
      have HO : Hid (opI ⟨path, act, s, n⟩ = 6) := by
        unfold Hid opI; simp only
        rw [if_neg (by rw [HPZ.out]; simp), if_pos]
        unfold actB
        rw [if_neg (by omega), if_neg (by omega), if_neg (by omega), if_neg (by omega)]
        simp [g7]
      go_wp2_with fail
      go_ret
      exact ⟨ret_int HO.out.symm, hB⟩
  · have hO : Hid (opI ⟨path, act, s, n⟩ = pathI path) := by unfold Hid opI; simp only; rw [if_pos hpz]
    have hne : (pathI path == 0) = false := by simpa using hpz
    have hne' : (pathI path != 0) = true := by simpa using hpz
    clear hpz
    go_wp2_with fail
    go_ret
    exact ⟨ret_int hO.out.symm, hB⟩
end Go.Proofs.YtlapdmgjfdelnaaGreat
