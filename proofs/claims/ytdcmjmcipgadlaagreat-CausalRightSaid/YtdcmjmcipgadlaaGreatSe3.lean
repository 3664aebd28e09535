/- What the laws need, part 3: Plain law of tributaryref08.Build: the leaves of a tree in order, built again, are the tree; what is built has the leaves that it was built of. No condition. Plain law: what tributaryref08.Get tells of a tree in order is what stands at the path. No condition. slices.IndexFunc and slices.ContainsFunc at runs, whatever the test; span.Has. No condition. context.Has. No condition but that there are not too many. Contexts put together of sets, in plain Lean: they may be taken apart, into those sets; what context.Has tells of them. No condition. Small facts in plain Lean for the laws: a tree of one entry, a context of one dot. No condition. slices.IndexFunc and slices.ContainsFunc at texts and at kids, whatever the test; the closures of tree.Wrap and ormap.Update. No condition. The closure of ormap.Update: is a kid's key this one? No condition. tree.Get. No condition but that it is not too big. set.Elems, set.Has, tributaryref10.Elems, tributaryref10.Less, slices.Contains at texts. No condition but that there are not too many. slices.SortFunc at runs: the library's contract laid at this program. No condition. slices.SortFunc at a list of runs of the call's own. No condition but that there are not too many. span.Of is the reference's set of the same numbers. No condition but that the numbers are right, and not too many. span.Union is the reference's union. No condition but that both are sets, and not too many. context.by at two right contexts, whatever rule; context.Union. No condition but that there are not too many. span.Minus: the walk. No condition but that there are not too many. span.Minus at two sets. No condition but that there are not too many. context.Of is the reference's context of the same dots. No condition but that the dots are right, and not too many. tree.Dots and flag.Check are what the reference says. No condition but that there are not too many entries. What a change hands back: what is known, and an error's number. No condition. flag.seen, flag.Disable, flag.On. No condition but that there are not too many entries. context.Minus, context.Right, context.Leq. No condition but that there are not too many. causal.Right. No condition but that there is not too much. tree.Wrap at one key. No condition but that it is not too big. -/
import Derived.Deep.QuietTactic
import Derived.Shelf.Abstract
import Derived.Shelf.SlSortCmp.NoneTotal
import Derived.Sort.OwnSorted
import Derived.Test.YtdcmjmcipgadlaaGreatProg
import Derived.Test.YtdcmjmcipgadlaaGreatSe2
namespace Go.Proofs.YtdcmjmcipgadlaaGreat
open Go.RowKit
set_option maxRecDepth 100000

theorem ltS_empty (a : ByteArray) : ltS a ByteArray.empty = false := by
  unfold ltS; rw [bytesLess_eq]; simp
theorem ltD_total {a b : Dt} (h : a.lt b = false) (k : b.lt a = false) : a = b := by
  obtain ⟨x, y⟩ := a
  obtain ⟨u, v⟩ := b
  unfold Dt.lt at h k
  split at h <;> split at k <;> simp at * <;> omega

/-- A tree in order. -/
inductive Tr.Ord : Tr → Prop
  | mk {es : List En} {ks : List Kd} (h1 : es.Pairwise fun a b => a.dot.lt b.dot = true) (h2 : ks.Pairwise fun a b => ltS a.1 b.1 = true) (h3 : ∀ k t, (k, t) ∈ ks → k ≠ ByteArray.empty ∧ t.empty = false) (h4 : ∀ k t, (k, t) ∈ ks → Tr.Ord t) : Tr.Ord (.mk es ks)

theorem ord_iff {es : List En} {ks : List Kd} : Tr.Ord (.mk es ks) ↔ (es.Pairwise fun a b => a.dot.lt b.dot = true) ∧ (ks.Pairwise fun a b => ltS a.1 b.1 = true) ∧ ∀ k t, (k, t) ∈ ks → k ≠ ByteArray.empty ∧ t.empty = false ∧ t.Ord :=
  ⟨fun h => by cases h with | mk h1 h2 h3 h4 => exact ⟨h1, h2, fun k t hm => ⟨(h3 k t hm).1, (h3 k t hm).2, h4 k t hm⟩⟩, fun h => .mk h.1 h.2.1 (fun k t hm => ⟨(h.2.2 k t hm).1, (h.2.2 k t hm).2.1⟩) fun k t hm => (h.2.2 k t hm).2.2⟩
theorem Ord.mk' {es : List En} {ks : List Kd} (h1 : es.Pairwise fun a b => a.dot.lt b.dot = true) (h2 : ks.Pairwise fun a b => ltS a.1 b.1 = true) (h3 : ∀ k t, (k, t) ∈ ks → k ≠ ByteArray.empty ∧ t.empty = false ∧ t.Ord) : Tr.Ord (.mk es ks) := ord_iff.2 ⟨h1, h2, h3⟩

theorem ents_pair : ∀ (es : List En) (p : Option Dt), entsB p es = true → (es.Pairwise fun a b => a.dot.lt b.dot = true) ∧ ∀ e ∈ es, okP p e.dot = true
  | [], _, _ => ⟨.nil, fun _ h => by cases h⟩
  | e :: es, p, h => by
    rw [entsB_cons, Bool.and_eq_true, Bool.and_eq_true] at h
    obtain ⟨h1, h2⟩ := ents_pair es _ h.2
    refine ⟨.cons (fun a ha => h2 a ha) h1, fun a ha => ?_⟩
    rcases List.mem_cons.1 ha with rfl | ha
    · exact h.1.2
    · exact okP_trans h.1.2 (h2 a ha)
theorem okK_trans {p : Option ByteArray} {a b : ByteArray} (h : okK p a = true) (k : ltS a b = true) : okK p b = true := by
  cases p with
  | none => rfl
  | some q => exact ltS_trans h k
theorem keyB_ne {k : ByteArray} (h : keyB k = true) : k ≠ ByteArray.empty := fun e => by
  subst e; simp [keyB] at h
theorem kids_pair (d : Int) : ∀ (ks : List Kd) (p : Option ByteArray), Tr.rightL p ks d = true → (ks.Pairwise fun a b => ltS a.1 b.1 = true) ∧ (∀ x ∈ ks, okK p x.1 = true) ∧ ∀ k t, (k, t) ∈ ks → k ≠ ByteArray.empty ∧ t.empty = false ∧ t.right (d - 1) = true
  | [], _, _ => ⟨.nil, fun _ h => (by cases h), fun _ _ h => by cases h⟩
  | (k, t) :: ks, p, h => by
    rw [rightL_cons, Bool.and_eq_true, Bool.and_eq_true, Bool.and_eq_true, Bool.and_eq_true] at h
    obtain ⟨⟨⟨⟨a1, a2⟩, a3⟩, a4⟩, a5⟩ := h
    obtain ⟨h1, h2, h3⟩ := kids_pair d ks _ a5
    refine ⟨.cons (fun a ha => h2 a ha) h1, fun a ha => ?_, fun k' t' hm => ?_⟩
    · rcases List.mem_cons.1 ha with rfl | ha
      · exact a2
      · exact okK_trans a2 (h2 a ha)
    · rcases List.mem_cons.1 hm with e | hm
      · cases e; exact ⟨keyB_ne a1, by simpa using a3, a4⟩
      · exact h3 k' t' hm
theorem right_ord : ∀ (t : Tr) (d : Int), t.right d = true → t.Ord := by
  intro t
  induction t using Tr.ind with
  | h es ks ih =>
  intro d h
  rw [Tr.right, Bool.and_eq_true, Bool.and_eq_true] at h
  obtain ⟨h1, h2, h3⟩ := kids_pair d ks none h.2
  exact Ord.mk' (ents_pair es none h.1.2).1 h1 fun k t hm => ⟨(h3 k t hm).1, (h3 k t hm).2.1, ih k t hm _ (h3 k t hm).2.2⟩

/-! the leaves of a tree -/
mutual
theorem lvs_pre : ∀ (t : Tr) (p q : List ByteArray), t.lvs (p ++ q) = (t.lvs q).map fun x => (p ++ x.1, x.2)
  | .mk es ks, p, q => by rw [Tr.lvs, Tr.lvs, List.map_append, List.map_map, lvsL_pre ks p q]; rfl
theorem lvsL_pre : ∀ (ks : List (ByteArray × Tr)) (p q : List ByteArray), Tr.lvsL ks (p ++ q) = (Tr.lvsL ks q).map fun x => (p ++ x.1, x.2)
  | [], p, q => rfl
  | (k, t) :: ks, p, q => by rw [Tr.lvsL, Tr.lvsL, List.map_append, lvsL_pre ks p q, List.append_assoc, lvs_pre t p (q ++ [k])]
end
theorem lvs_at (t : Tr) (p : List ByteArray) : t.lvs p = (t.lvs []).map fun x => (p ++ x.1, x.2) := by
  have := lvs_pre t p []; simpa using this
theorem mem_lvsL {ks : List Kd} {p : List ByteArray} {x : Lf} : x ∈ Tr.lvsL ks p ↔ ∃ k t, (k, t) ∈ ks ∧ x ∈ t.lvs (p ++ [k]) := by
  induction ks with
  | nil => simp [Tr.lvsL]
  | cons y ks ih =>
    obtain ⟨k, t⟩ := y
    rw [Tr.lvsL, List.mem_append, ih]
    constructor
    · rintro (h | ⟨k', t', hm, h⟩)
      · exact ⟨k, t, by simp, h⟩
      · exact ⟨k', t', by simp [hm], h⟩
    · rintro ⟨k', t', hm, h⟩
      rcases List.mem_cons.1 hm with e | hm
      · cases e; exact .inl h
      · exact .inr ⟨k', t', hm, h⟩
theorem mem_lvs {es : List En} {ks : List Kd} {x : Lf} : x ∈ (Tr.mk es ks).lvs [] ↔ (x.1 = [] ∧ x.2 ∈ es) ∨ ∃ k t qs, (k, t) ∈ ks ∧ x.1 = k :: qs ∧ (qs, x.2) ∈ t.lvs [] := by
  rw [Tr.lvs, List.mem_append, mem_lvsL]
  constructor
  · rintro (h | ⟨k, t, hm, h⟩)
    · obtain ⟨e, he, rfl⟩ := List.mem_map.1 h
      exact .inl ⟨rfl, he⟩
    · rw [lvs_at] at h
      obtain ⟨y, hy, rfl⟩ := List.mem_map.1 h
      exact .inr ⟨k, t, y.1, hm, rfl, hy⟩
  · obtain ⟨p, e⟩ := x
    rintro (⟨h1, h2⟩ | ⟨k, t, qs, hm, h1, h2⟩)
    · cases h1; exact .inl (List.mem_map.2 ⟨e, h2, rfl⟩)
    · cases h1; exact .inr ⟨k, t, hm, by rw [lvs_at]; exact List.mem_map.2 ⟨(qs, e), h2, rfl⟩⟩
theorem mem_nil {es : List En} {ks : List Kd} {e : En} : (([], e) : Lf) ∈ (Tr.mk es ks).lvs [] ↔ e ∈ es := by
  rw [mem_lvs]; simp
theorem mem_cons' {es : List En} {ks : List Kd} {e : En} {k : ByteArray} {qs : List ByteArray} : ((k :: qs, e) : Lf) ∈ (Tr.mk es ks).lvs [] ↔ ∃ t, (k, t) ∈ ks ∧ (qs, e) ∈ t.lvs [] := by
  rw [mem_lvs]
  constructor
  · rintro (⟨h, _⟩ | ⟨k', t, qs', hm, h, h2⟩)
    · cases h
    · cases h; exact ⟨t, hm, h2⟩
  · rintro ⟨t, hm, h⟩; exact .inr ⟨k, t, qs, hm, rfl, h⟩
/-- A tree in order that isn't empty has a leaf. -/
theorem ord_leaf : ∀ (t : Tr), t.Ord → t.empty = false → ∃ x, x ∈ t.lvs [] := by
  intro t
  induction t using Tr.ind with
  | h es ks ih =>
  intro h he
  obtain ⟨_, _, h3⟩ := ord_iff.1 h
  cases es with
  | cons e es => exact ⟨([], e), mem_nil.2 (by simp)⟩
  | nil =>
    cases ks with
    | nil => simp [Tr.empty] at he
    | cons y ks =>
      obtain ⟨k, t⟩ := y
      obtain ⟨x, hx⟩ := ih k t (by simp) (h3 k t (by simp)).2.2 (h3 k t (by simp)).2.1
      exact ⟨(k :: x.1, x.2), mem_cons'.2 ⟨t, by simp, hx⟩⟩
theorem sorted_ext {α : Type} {r : α → α → Bool} (hi : ∀ a, r a a = false) (ht : ∀ a b c, r a b = true → r b c = true → r a c = true) : ∀ {l m : List α}, (l.Pairwise fun a b => r a b = true) → (m.Pairwise fun a b => r a b = true) → (∀ x, x ∈ l ↔ x ∈ m) → l = m
  | [], [], _, _, _ => rfl
  | [], y :: m, _, _, h => by have := (h y).2 (by simp); cases this
  | x :: l, [], _, _, h => by have := (h x).1 (by simp); cases this
  | x :: l, y :: m, hl, hm, h => by
    rw [List.pairwise_cons] at hl hm
    have hxy : x = y := by
      rcases List.mem_cons.1 ((h x).1 (by simp)) with e | e
      · exact e
      · rcases List.mem_cons.1 ((h y).2 (by simp)) with e' | e'
        · exact e'.symm
        · have := ht _ _ _ (hl.1 y e') (hm.1 x e); rw [hi] at this; cases this
    subst hxy
    congr 1
    refine sorted_ext hi ht hl.2 hm.2 fun z => ?_
    constructor
    · intro hz
      rcases List.mem_cons.1 ((h z).1 (List.mem_cons_of_mem _ hz)) with e | e
      · subst e; have := hl.1 z hz; rw [hi] at this; cases this
      · exact e
    · intro hz
      rcases List.mem_cons.1 ((h z).2 (List.mem_cons_of_mem _ hz)) with e | e
      · subst e; have := hm.1 z hz; rw [hi] at this; cases this
      · exact e
theorem keys_one {ks : List Kd} (h : ks.Pairwise fun a b => ltS a.1 b.1 = true) {k : ByteArray} {s t : Tr} (hs : (k, s) ∈ ks) (ht : (k, t) ∈ ks) : s = t := by
  induction ks with
  | nil => cases hs
  | cons y ks ih =>
    rw [List.pairwise_cons] at h
    rcases List.mem_cons.1 hs with e | hs
    · rcases List.mem_cons.1 ht with e' | ht
      · rw [← e] at e'; cases e'; rfl
      · have := h.1 _ ht; rw [← e] at this; simp only [ltS_irrefl] at this; cases this
    · rcases List.mem_cons.1 ht with e' | ht
      · have := h.1 _ hs; rw [← e'] at this; simp only [ltS_irrefl] at this; cases this
      · exact ih h.2 hs ht
/-- Two trees in order that have the same leaves are the same. -/
theorem ord_ext : ∀ (s t : Tr), s.Ord → t.Ord → (∀ x, x ∈ s.lvs [] ↔ x ∈ t.lvs []) → s = t := by
  intro s
  induction s using Tr.ind with
  | h es ks ih =>
  intro t hs ht h
  obtain ⟨es', ks'⟩ := t
  obtain ⟨s1, s2, s3⟩ := ord_iff.1 hs
  obtain ⟨t1, t2, t3⟩ := ord_iff.1 ht
  have he : es = es' := sorted_ext (r := fun a b : En => a.dot.lt b.dot) (fun a => lt_irrefl' _) (fun _ _ _ => lt_trans') s1 t1 fun e => by
    rw [← mem_nil (ks := ks), ← mem_nil (ks := ks')]; exact h _
  have hk : ∀ k s, (k, s) ∈ ks → (k, s) ∈ ks' := fun k s hm => by
    obtain ⟨h1, h2, h3⟩ := s3 k s hm
    obtain ⟨x, hx⟩ := ord_leaf s h3 h2
    obtain ⟨u, hu, hxu⟩ := mem_cons'.1 ((h (k :: x.1, x.2)).1 (mem_cons'.2 ⟨s, hm, hx⟩))
    have : s = u := ih k s hm u h3 (t3 k u hu).2.2 fun y => by
      constructor
      · intro hy
        obtain ⟨v, hv, hyv⟩ := mem_cons'.1 ((h (k :: y.1, y.2)).1 (mem_cons'.2 ⟨s, hm, hy⟩))
        rw [keys_one t2 hu hv]; exact hyv
      · intro hy
        obtain ⟨v, hv, hyv⟩ := mem_cons'.1 ((h (k :: y.1, y.2)).2 (mem_cons'.2 ⟨u, hu, hy⟩))
        rw [keys_one s2 hm hv]; exact hyv
    rw [this]; exact hu
  have hk' : ∀ k u, (k, u) ∈ ks' → (k, u) ∈ ks := fun k u hm => by
    obtain ⟨h1, h2, h3⟩ := t3 k u hm
    obtain ⟨x, hx⟩ := ord_leaf u h3 h2
    obtain ⟨s, hs', _⟩ := mem_cons'.1 ((h (k :: x.1, x.2)).2 (mem_cons'.2 ⟨u, hm, hx⟩))
    have := keys_one t2 hm (hk k s hs')
    rw [this]; exact hs'
  have hkk : ks = ks' := sorted_ext (r := fun a b : Kd => ltS a.1 b.1) (fun a => ltS_irrefl _) (fun _ _ _ => ltS_trans) s2 t2 fun ⟨k, t⟩ => ⟨hk k t, hk' k t⟩
  rw [he, hkk]

/-! what Build takes -/
theorem selS_min (l : List Lf) (last : Option Dt) : ∀ (b : Option En), (∀ c, b = some c → ∃ e, l.foldl (selS last) b = some e ∧ c.dot.lt e.dot = false) ∧ ∀ x ∈ l, x.1 = [] → okP last x.2.dot = true → ∃ e, l.foldl (selS last) b = some e ∧ x.2.dot.lt e.dot = false := by
  induction l with
  | nil => intro b; exact ⟨fun c h => ⟨c, h, lt_irrefl' _⟩, fun _ h => by cases h⟩
  | cons y l ih =>
    intro b
    rw [List.foldl_cons]
    obtain ⟨i1, i2⟩ := ih (selS last b y)
    refine ⟨fun c hc => ?_, fun x hx h1 h2 => ?_⟩
    · subst hc
      by_cases hs : selC last (some c) y = true
      · obtain ⟨e, he, hle⟩ := i1 y.2 (by simp [selS, hs])
        refine ⟨e, he, ?_⟩
        simp only [selC, Bool.and_eq_true] at hs
        cases hce : c.dot.lt e.dot
        · rfl
        · rw [lt_trans' hs.2 hce] at hle; cases hle
      · exact i1 c (by simp [selS, hs])
    · rcases List.mem_cons.1 hx with rfl | hx
      · cases b with
        | none =>
          have hs : selC last none x = true := by simp [selC, h1, h2]
          exact i1 x.2 (by simp [selS, hs])
        | some c =>
          by_cases hs : selC last (some c) x = true
          · exact i1 x.2 (by simp [selS, hs])
          · obtain ⟨e, he, hle⟩ := i1 c (by simp [selS, hs])
            refine ⟨e, he, ?_⟩
            have hxc : x.2.dot.lt c.dot = false := by
              cases hxc : x.2.dot.lt c.dot
              · rfl
              · exact absurd (by simp [selC, h1, h2, hxc]) hs
            cases hxe : x.2.dot.lt e.dot
            · rfl
            · cases hec : e.dot.lt c.dot
              · have := ltD_total hec hle; rw [this] at hxe; rw [hxe] at hxc; cases hxc
              · rw [lt_trans' hxe hec] at hxc; cases hxc
      · exact i2 x hx h1 h2
theorem entsGo_spec (l : List Lf) : ∀ (n : Nat) (es : List En), ahE l (es.getLast?.map En.dot) < n → (es.Pairwise fun a b => a.dot.lt b.dot = true) → (∀ e ∈ es, (([], e) : Lf) ∈ l) → (∀ x ∈ l, x.1 = [] → okP (es.getLast?.map En.dot) x.2.dot = false → ∃ e ∈ es, e.dot = x.2.dot) →
    ((entsGo l n es).Pairwise fun a b => a.dot.lt b.dot = true) ∧ (∀ e ∈ entsGo l n es, (([], e) : Lf) ∈ l) ∧ ∀ x ∈ l, x.1 = [] → ∃ e ∈ entsGo l n es, e.dot = x.2.dot
  | 0, _, h, _, _, _ => absurd h (Nat.not_lt_zero _)
  | n + 1, es, h, h1, h2, h3 => by
    rw [entsGo]
    cases hb : bestE l (es.getLast?.map En.dot) with
    | none =>
      refine ⟨h1, h2, fun x hx hx1 => ?_⟩
      cases ho : okP (es.getLast?.map En.dot) x.2.dot
      · exact h3 x hx hx1 ho
      · obtain ⟨e, he, _⟩ := (selS_min l (es.getLast?.map En.dot) none).2 x hx hx1 ho
        unfold bestE at hb; rw [hb] at he; cases he
    | some e =>
      obtain ⟨⟨y, hy, hy1, hy2⟩, hok⟩ := bestE_spec hb
      have hle : (es ++ [e]).getLast?.map En.dot = some e.dot := by simp
      refine entsGo_spec l n (es ++ [e]) ?_ ?_ ?_ ?_
      · rw [hle]; have := ahE_lt hb; omega
      · rw [List.pairwise_append]
        refine ⟨h1, List.pairwise_singleton _ _, fun a ha b hb' => ?_⟩
        rw [List.mem_singleton] at hb'; subst hb'
        rcases List.eq_nil_or_concat es with rfl | ⟨es', z, rfl⟩
        · cases ha
        · rw [List.concat_eq_append] at *
          rw [List.getLast?_append] at hok
          have hz : z.dot.lt b.dot = true := hok
          rcases List.mem_append.1 ha with ha | ha
          · exact lt_trans' ((List.pairwise_append.1 h1).2.2 a ha z (by simp)) hz
          · rw [List.mem_singleton] at ha; subst ha; exact hz
      · intro a ha
        rcases List.mem_append.1 ha with ha | ha
        · exact h2 a ha
        · rw [List.mem_singleton] at ha; subst ha
          obtain ⟨p, e'⟩ := y
          simp only at hy1 hy2; subst hy1; subst hy2; exact hy
      · intro x hx hx1 ho
        rw [hle] at ho
        have ho : e.dot.lt x.2.dot = false := ho
        cases ho' : okP (es.getLast?.map En.dot) x.2.dot
        · obtain ⟨a, ha, hae⟩ := h3 x hx hx1 ho'
          exact ⟨a, List.mem_append_left _ ha, hae⟩
        · obtain ⟨e', he', hm⟩ := (selS_min l (es.getLast?.map En.dot) none).2 x hx hx1 ho'
          unfold bestE at hb; rw [hb] at he'; cases he'
          exact ⟨e, by simp, ltD_total ho hm⟩
theorem selEnts_spec (l : List Lf) : ((selEnts l).Pairwise fun a b => a.dot.lt b.dot = true) ∧ (∀ e ∈ selEnts l, (([], e) : Lf) ∈ l) ∧ ∀ x ∈ l, x.1 = [] → ∃ e ∈ selEnts l, e.dot = x.2.dot :=
  entsGo_spec l _ [] (by have := ahE_le l (([] : List En).getLast?.map En.dot); omega) .nil (fun _ h => by cases h) (fun x _ _ h => by simp [okP] at h)

theorem keyS_min (l : List Lf) (last : ByteArray) : ∀ (b : ByteArray), (b ≠ ByteArray.empty → l.foldl (keyS last) b ≠ ByteArray.empty ∧ ltS b (l.foldl (keyS last) b) = false) ∧ ∀ x ∈ l, ∀ q qs, x.1 = q :: qs → ltS last q = true → l.foldl (keyS last) b ≠ ByteArray.empty ∧ ltS q (l.foldl (keyS last) b) = false := by
  induction l with
  | nil => intro b; exact ⟨fun h => ⟨h, ltS_irrefl _⟩, fun _ h => by cases h⟩
  | cons y l ih =>
    intro b
    rw [List.foldl_cons]
    obtain ⟨i1, i2⟩ := ih (keyS last b y)
    have hne : ∀ q : ByteArray, ltS last q = true → q ≠ ByteArray.empty := fun q h e => by rw [e, ltS_empty] at h; cases h
    refine ⟨fun hb => ?_, fun x hx q qs h1 h2 => ?_⟩
    · by_cases hs : keyC last b y = true
      · obtain ⟨p, e⟩ := y
        cases p with
        | nil => simp [keyC] at hs
        | cons q qs =>
          have e1 : keyS last b (q :: qs, e) = q := by simp [keyS, hs]
          rw [e1] at i1 ⊢
          simp only [keyC, Bool.and_eq_true, Bool.or_eq_true, decide_eq_true_eq] at hs
          obtain ⟨j1, j2⟩ := i1 (hne q hs.1)
          refine ⟨j1, ?_⟩
          cases hc : ltS b (l.foldl (keyS last) q)
          · rfl
          · rcases hs.2 with h | h
            · exact absurd h hb
            · rw [ltS_trans h hc] at j2; cases j2
      · have e1 : keyS last b y = b := by simp [keyS, hs]
        rw [e1] at i1 ⊢; exact i1 hb
    · rcases List.mem_cons.1 hx with rfl | hx
      · obtain ⟨p, e⟩ := x
        simp only at h1; subst h1
        by_cases hs : keyC last b (q :: qs, e) = true
        · have e1 : keyS last b (q :: qs, e) = q := by simp [keyS, hs]
          rw [e1] at i1 ⊢; exact i1 (hne q h2)
        · have e1 : keyS last b (q :: qs, e) = b := by simp [keyS, hs]
          rw [e1] at i1 ⊢
          simp only [keyC, h2, Bool.true_and, Bool.or_eq_true, decide_eq_true_eq, not_or] at hs
          obtain ⟨j1, j2⟩ := i1 hs.1
          refine ⟨j1, ?_⟩
          cases hc : ltS q (l.foldl (keyS last) b)
          · rfl
          · have hqb : ltS q b = false := by simpa using hs.2
            cases hcb : ltS (l.foldl (keyS last) b) b
            · have := ltS_total hcb j2; rw [this] at hc; rw [hc] at hqb; cases hqb
            · rw [ltS_trans hc hcb] at hqb; cases hqb
      · exact i2 x hx q qs h1 h2
theorem kidsGo_spec (f : List Lf → Tr) (l : List Lf) : ∀ (n : Nat) (last : ByteArray), ahK l last < n → ((kidsGo f l n last).Pairwise fun a b => ltS a.1 b.1 = true) ∧
    (∀ k t, (k, t) ∈ kidsGo f l n last → ltS last k = true ∧ t = f (underL l k) ∧ ∃ x ∈ l, ∃ qs, x.1 = k :: qs) ∧ ∀ x ∈ l, ∀ q qs, x.1 = q :: qs → ltS last q = true → (q, f (underL l q)) ∈ kidsGo f l n last
  | 0, _, h => absurd h (Nat.not_lt_zero _)
  | n + 1, last, h => by
    rw [kidsGo]
    by_cases hb : bestK l last = ByteArray.empty
    · rw [if_pos hb]
      refine ⟨.nil, fun _ _ h => (by cases h), fun x hx q qs h1 h2 => ?_⟩
      exact absurd hb ((keyS_min l last ByteArray.empty).2 x hx q qs h1 h2).1
    · rw [if_neg hb]
      obtain ⟨hm, hlt⟩ := bestK_spec hb
      obtain ⟨i1, i2, i3⟩ := kidsGo_spec f l n (bestK l last) (by have := ahK_lt hb; omega)
      refine ⟨.cons (fun a ha => (i2 a.1 a.2 ha).1) i1, fun k t hkt => ?_, fun x hx q qs h1 h2 => ?_⟩
      · rcases List.mem_cons.1 hkt with e | e
        · cases e; exact ⟨hlt, rfl, hm⟩
        · obtain ⟨j1, j2, j3⟩ := i2 k t e
          exact ⟨ltS_trans hlt j1, j2, j3⟩
      · obtain ⟨_, hmin⟩ := (keyS_min l last ByteArray.empty).2 x hx q qs h1 h2
        cases hq : ltS (bestK l last) q
        · have := ltS_total hq hmin
          rw [← this]; exact List.mem_cons_self
        · exact List.mem_cons_of_mem _ (i3 x hx q qs h1 hq)
theorem mem_under {l : List Lf} {q : ByteArray} {qs : List ByteArray} {e : En} : ((qs, e) : Lf) ∈ underL l q ↔ ((q :: qs, e) : Lf) ∈ l := by
  unfold underL
  rw [List.mem_filterMap]
  constructor
  · rintro ⟨⟨p, e'⟩, hx, hu⟩
    cases p with
    | nil => simp [underF] at hu
    | cons a ps =>
      by_cases ha : a = q
      · simp [underF, ha] at hu; obtain ⟨rfl, rfl⟩ := hu; rw [← ha]; exact hx
      · simp [underF, ha] at hu
  · intro h; exact ⟨_, h, by simp [underF]⟩
/-- Leaves of which no two of a dot stand at the same place, and whose keys are keys. -/
structure LvOk (l : List Lf) : Prop where
  key : ∀ x ∈ l, ∀ k ∈ x.1, k ≠ ByteArray.empty
  one : ∀ x ∈ l, ∀ y ∈ l, x.1 = y.1 → x.2.dot = y.2.dot → x = y
theorem LvOk.under {l : List Lf} (h : LvOk l) (q : ByteArray) : LvOk (underL l q) :=
  ⟨fun x hx k hk => h.key (q :: x.1, x.2) (mem_under.1 hx) k (List.mem_cons_of_mem _ hk), fun x hx y hy h1 h2 => by
    have := h.one (q :: x.1, x.2) (mem_under.1 hx) (q :: y.1, y.2) (mem_under.1 hy) (by rw [h1]) h2
    obtain ⟨p, e⟩ := x
    obtain ⟨p', e'⟩ := y
    simp only [Prod.mk.injEq, List.cons.injEq, true_and] at this
    rw [this.1, this.2]⟩
def topT (d : Nat) : List Lf → Tr := match d with | 0 => fun _ => .mk [] [] | d + 1 => buildT d
theorem buildT_eq (d : Nat) (l : List Lf) : buildT d l = .mk (selEnts l) (kidsGo (topT d) l (l.length + 1) ByteArray.empty) := by
  cases d <;> rfl
theorem build_spec : ∀ (d : Nat) (l : List Lf), (∀ x ∈ l, x.1.length ≤ d) → LvOk l → (buildT d l).Ord ∧ ∀ x, x ∈ (buildT d l).lvs [] ↔ x ∈ l
  | d, l, hd, hl => by
    rw [buildT_eq]
    obtain ⟨e1, e2, e3⟩ := selEnts_spec l
    obtain ⟨k1, k2, k3⟩ := kidsGo_spec (topT d) l (l.length + 1) ByteArray.empty (by have := ahK_le l ByteArray.empty; omega)
    have hne : ∀ q : ByteArray, q ≠ ByteArray.empty → ltS ByteArray.empty q = true := fun q h => by
      cases hq : ltS ByteArray.empty q
      · exact absurd (ltS_total (ltS_empty q) hq) h
      · rfl
    have ih : ∀ k t, (k, t) ∈ kidsGo (topT d) l (l.length + 1) ByteArray.empty → t.Ord ∧ (∀ x, x ∈ t.lvs [] ↔ x ∈ underL l k) ∧ ∃ x, x ∈ underL l k := fun k t hm => by
      obtain ⟨h1, h2, x, hx, qs, h3⟩ := k2 k t hm
      have hu : ((qs, x.2) : Lf) ∈ underL l k := mem_under.2 (by rw [← h3]; exact hx)
      cases d with
      | zero => have := hd x hx; rw [h3] at this; simp at this
      | succ d =>
        obtain ⟨i1, i2⟩ := build_spec d (underL l k) (fun y hy => by have := hd _ (mem_under.1 hy); simp at this; exact this) (hl.under k)
        rw [h2]; exact ⟨i1, i2, _, hu⟩
    refine ⟨Ord.mk' e1 k1 fun k t hm => ?_, fun x => ?_⟩
    · obtain ⟨i1, i2, x, hx⟩ := ih k t hm
      refine ⟨fun e => ?_, ?_, i1⟩
      · have := (k2 k t hm).1; rw [e, ltS_empty] at this; cases this
      · cases he : t.empty
        · rfl
        · obtain ⟨es, ks⟩ := t
          simp [Tr.empty] at he
          obtain ⟨rfl, rfl⟩ := he
          have := (i2 x).2 hx
          simp [Tr.lvs, Tr.lvsL] at this
    · obtain ⟨p, e⟩ := x
      cases p with
      | nil =>
        rw [mem_nil]
        constructor
        · exact e2 e
        · intro h
          obtain ⟨e', he', hd'⟩ := e3 _ h rfl
          have := hl.one _ (e2 e' he') _ h rfl hd'
          cases this; exact he'
      | cons k qs =>
        rw [mem_cons']
        constructor
        · rintro ⟨t, hm, h⟩
          exact mem_under.1 (((ih k t hm).2.1 _).1 h)
        · intro h
          have hm := k3 _ h k qs rfl (hne k (hl.key _ h k (by simp)))
          exact ⟨_, hm, ((ih k _ hm).2.1 _).2 (mem_under.2 h)⟩
theorem buildL_spec {l : List Lf} (h : LvOk l) : (buildL l).Ord ∧ ∀ x, x ∈ (buildL l).lvs [] ↔ x ∈ l := build_spec _ l (fun _ hx => deepL_le hx) h
theorem ord_lvOk : ∀ (t : Tr), t.Ord → LvOk (t.lvs []) := by
  intro t
  induction t using Tr.ind with
  | h es ks ih =>
  intro h
  obtain ⟨h1, h2, h3⟩ := ord_iff.1 h
  refine ⟨fun x hx k hk => ?_, fun x hx y hy hp hd => ?_⟩
  · rcases mem_lvs.1 hx with ⟨hn, _⟩ | ⟨k', t, qs, hm, hq, hl⟩
    · rw [hn] at hk; cases hk
    · rw [hq] at hk
      rcases List.mem_cons.1 hk with rfl | hk
      · exact (h3 _ t hm).1
      · exact (ih k' t hm (h3 k' t hm).2.2).key _ hl k hk
  · obtain ⟨p, e⟩ := x
    obtain ⟨p', e'⟩ := y
    simp only at hp hd; subst hp
    cases p with
    | nil =>
      have a := mem_nil.1 hx
      have b := mem_nil.1 hy
      have : e = e' := by
        clear hx hy h ih h2 h3
        induction es with
        | nil => cases a
        | cons z es ih =>
          rw [List.pairwise_cons] at h1
          rcases List.mem_cons.1 a with a' | a'
          · rcases List.mem_cons.1 b with b' | b'
            · rw [a', b']
            · have := h1.1 _ b'; rw [← hd, a', lt_irrefl'] at this; cases this
          · rcases List.mem_cons.1 b with b' | b'
            · have := h1.1 _ a'; rw [hd, b', lt_irrefl'] at this; cases this
            · exact ih h1.2 a' b'
      rw [this]
    | cons k qs =>
      obtain ⟨t, hm, ha⟩ := mem_cons'.1 hx
      obtain ⟨t', hm', hb⟩ := mem_cons'.1 hy
      rw [keys_one h2 hm' hm] at hb
      have := (ih k t hm (h3 k t hm).2.2).one _ ha _ hb rfl hd
      cases this; rfl
/-- The leaves of a tree in order, built again. -/
theorem build_lvs {t : Tr} (h : t.Ord) : buildL (t.lvs []) = t := by
  obtain ⟨h1, h2⟩ := buildL_spec (ord_lvOk t h)
  exact ord_ext _ _ h1 h h2
/-- What is built of the leaves of a tree in order, in whatever order. -/
theorem build_of {t : Tr} {l : List Lf} (h : t.Ord) (hl : LvOk l) (he : ∀ x, x ∈ l ↔ x ∈ t.lvs []) : buildL l = t := by
  obtain ⟨h1, h2⟩ := buildL_spec hl
  exact ord_ext _ _ h1 h fun x => (h2 x).trans (he x)
end Go.Proofs.YtdcmjmcipgadlaaGreat

namespace Go.Proofs.YtdcmjmcipgadlaaGreat
open Go.RowKit
set_option maxRecDepth 100000

/-- What stands at a key. -/
def kidT (t : Tr) (s : ByteArray) : Tr := match t.ks.find? fun x => decide (x.1 = s) with | some x => x.2 | none => .mk [] []
def getK (t : Tr) (p : List ByteArray) : Tr := p.foldl kidT t
theorem ord_nil : Tr.Ord (.mk [] []) := Ord.mk' .nil .nil fun _ _ h => by cases h
theorem buildL_none {l : List Lf} (h : ∀ x, x ∉ l) : buildL l = .mk [] [] := by
  have : l = [] := List.eq_nil_iff_forall_not_mem.2 h
  subst this
  exact build_lvs ord_nil
theorem kidT_mem {t : Tr} (h : t.Ord) {s : ByteArray} {u : Tr} (hm : (s, u) ∈ t.ks) : kidT t s = u := by
  obtain ⟨es, ks⟩ := t
  unfold kidT
  cases hf : (Tr.mk es ks).ks.find? fun x => decide (x.1 = s) with
  | none =>
    have := List.find?_eq_none.1 hf _ hm
    simp at this
  | some x =>
    have h1 := List.find?_some hf
    have h2 := List.mem_of_find?_eq_some hf
    simp at h1
    obtain ⟨k, v⟩ := x
    simp only at h1; subst h1
    exact keys_one (ord_iff.1 h).2.1 h2 hm
theorem kidT_none {t : Tr} {s : ByteArray} (h : ∀ u, (s, u) ∉ t.ks) : kidT t s = .mk [] [] := by
  unfold kidT
  rw [List.find?_eq_none.2]
  rintro ⟨k, u⟩ hm e
  simp at e; subst e
  exact h u hm
theorem kidT_ord {t : Tr} (h : t.Ord) (s : ByteArray) : (kidT t s).Ord := by
  by_cases hm : ∃ u, (s, u) ∈ t.ks
  · obtain ⟨u, hm⟩ := hm
    rw [kidT_mem h hm]
    obtain ⟨es, ks⟩ := t
    exact ((ord_iff.1 h).2.2 s u hm).2.2
  · rw [kidT_none fun u hu => hm ⟨u, hu⟩]; exact ord_nil
theorem mem_kidT {t : Tr} (h : t.Ord) {s : ByteArray} {qs : List ByteArray} {e : En} : ((qs, e) : Lf) ∈ (kidT t s).lvs [] ↔ ((s :: qs, e) : Lf) ∈ t.lvs [] := by
  obtain ⟨es, ks⟩ := t
  rw [mem_cons']
  constructor
  · intro hx
    by_cases hm : ∃ u, (s, u) ∈ (Tr.mk es ks).ks
    · obtain ⟨u, hm⟩ := hm
      rw [kidT_mem h hm] at hx
      exact ⟨u, hm, hx⟩
    · rw [kidT_none fun u hu => hm ⟨u, hu⟩] at hx; simp [Tr.lvs, Tr.lvsL] at hx
  · rintro ⟨u, hm, hx⟩
    rw [kidT_mem h (show (s, u) ∈ (Tr.mk es ks).ks from hm)]; exact hx
theorem getL_law : ∀ (p : List ByteArray) (l : List Lf) (t : Tr), t.Ord → LvOk l → (∀ x, x ∈ l ↔ x ∈ t.lvs []) → buildL (getL l p) = getK t p
  | [], l, t, h, hl, he => build_of h hl he
  | s :: p, l, t, h, hl, he => by
    show buildL (getL (underL l s) p) = getK (kidT t s) p
    exact getL_law p (underL l s) (kidT t s) (kidT_ord h s) (hl.under s) fun ⟨qs, e⟩ => by rw [mem_under, he, mem_kidT h]
/-- What the reference tells of a path. -/
theorem get_law {t : Tr} (h : t.Ord) (p : List ByteArray) : getT t p = getK t p := getL_law p _ t h (ord_lvOk t h) fun _ => Iff.rfl
theorem kidT_szL {s : ByteArray} : ∀ {ks : List Kd} {x : Kd}, ks.find? (fun x => decide (x.1 = s)) = some x → x.2.sz ≤ Tr.szL ks
  | (k, t) :: ks, x, h => by
    rw [Tr.szL]
    rw [List.find?_cons] at h
    split at h
    · cases h; simp; omega
    · have := kidT_szL h; omega
theorem kidT_sz (t : Tr) (s : ByteArray) : (kidT t s).sz ≤ t.sz := by
  obtain ⟨es, ks⟩ := t
  unfold kidT
  cases hf : (Tr.mk es ks).ks.find? fun x => decide (x.1 = s) with
  | none => simp [Tr.sz, Tr.szL]
  | some x =>
    have := kidT_szL (show ks.find? _ = some x from hf)
    rw [Tr.sz]; simp only; omega
theorem kidT_right {t : Tr} {n : Int} (h : t.right (n + 1) = true) (hn : 1 ≤ n) (s : ByteArray) : (kidT t s).right n = true := by
  by_cases hm : ∃ u, (s, u) ∈ t.ks
  · obtain ⟨u, hm⟩ := hm
    rw [kidT_mem (right_ord t _ h) hm]
    obtain ⟨es, ks⟩ := t
    rw [Tr.right, Bool.and_eq_true, Bool.and_eq_true] at h
    have := ((kids_pair _ ks none h.2).2.2 s u hm).2.2
    simpa using this
  · rw [kidT_none fun u hu => hm ⟨u, hu⟩]
    rw [Tr.right]; simp [entsB, Tr.rightL]; omega
theorem right_up : ∀ (t : Tr) (n m : Int), t.right n = true → n ≤ m → t.right m = true := by
  intro t
  induction t using Tr.ind with
  | h es ks ih =>
  intro n m h hnm
  rw [Tr.right, Bool.and_eq_true, Bool.and_eq_true, decide_eq_true_eq] at h ⊢
  refine ⟨⟨by omega, h.1.2⟩, ?_⟩
  have : ∀ (p : Option ByteArray) (ks : List Kd), (∀ k t, (k, t) ∈ ks → ∀ n m : Int, t.right n = true → n ≤ m → t.right m = true) → Tr.rightL p ks n = true → Tr.rightL p ks m = true := by
    intro p ks
    induction ks generalizing p with
    | nil => intro _ _; cases p <;> rfl
    | cons x ks ih' =>
      obtain ⟨k, t⟩ := x
      intro hi h
      rw [rightL_cons, Bool.and_eq_true, Bool.and_eq_true] at h ⊢
      exact ⟨⟨h.1.1, hi k t (by simp) _ _ h.1.2 (by omega)⟩, ih' (some k) (fun k t hm => hi k t (by simp [hm])) h.2⟩
  exact this none ks ih h.2
end Go.Proofs.YtdcmjmcipgadlaaGreat

namespace Go.Proofs.YtdcmjmcipgadlaaGreat
open Go.RowKit
set_option maxRecDepth 100000

def idxI {α : Type} (p : α → Bool) (l : List α) : Int := match l.findIdx? p with | some i => (i : Int) | none => -1
theorem idxI_hit {α : Type} {p : α → Bool} {l : List α} {k : Nat} {x : α} (h : ∀ (j : Nat) y, j < k → l[j]? = some y → p y = false) (hx : l[k]? = some x) (hp : p x = true) : idxI p l = (k : Int) := by
  have hlt := (List.getElem?_eq_some_iff.1 hx).1
  have : l.findIdx? p = some k := by
    rw [List.findIdx?_eq_some_iff_getElem]
    refine ⟨hlt, by rw [(List.getElem?_eq_some_iff.1 hx).2]; exact hp, fun j hj => ?_⟩
    rw [h j _ hj (List.getElem?_eq_getElem (by omega))]; simp
  unfold idxI; rw [this]
theorem idxI_miss {α : Type} {p : α → Bool} {l : List α} (h : ∀ (j : Nat) y, j < l.length → l[j]? = some y → p y = false) : idxI p l = -1 := by
  have : l.findIdx? p = none := by
    rw [List.findIdx?_eq_none_iff]
    intro x hx
    obtain ⟨j, hj⟩ := List.getElem?_of_mem hx
    exact h j x (List.getElem?_eq_some_iff.1 hj).1 hj
  unfold idxI; rw [this]
theorem idxI_any {α : Type} (p : α → Bool) (l : List α) : decide (0 ≤ idxI p l) = l.any p := by
  unfold idxI
  cases h : l.findIdx? p with
  | none =>
    rw [List.findIdx?_eq_none_iff] at h
    rw [Bool.eq_iff_iff]
    simp [List.any_eq_true]
    exact h
  | some i =>
    rw [List.findIdx?_eq_some_iff_getElem] at h
    obtain ⟨hlt, hp, _⟩ := h
    have : l.any p = true := List.any_eq_true.2 ⟨l[i], List.getElem_mem hlt, hp⟩
    rw [this]; simp
theorem idxI_bd {α : Type} (p : α → Bool) (l : List α) : -1 ≤ idxI p l ∧ idxI p l < l.length + 1 := by
  unfold idxI
  cases h : l.findIdx? p with
  | none => simp; omega
  | some i =>
    rw [List.findIdx?_eq_some_iff_getElem] at h
    obtain ⟨hlt, _⟩ := h
    simp; omega

/-- A test on runs: it tells p, and turns nothing that was there. -/
def TestRun (g : Nat) (lb : Array Value) (p : Int × Int → Bool) (w : World) : Prop :=
  (∀ args W, (callFunc g args).run Tryz.prog W = .ok (.enter g args) W) ∧
  ∀ (x : Int × Int) (W : World), Below w.heap.size w W → Calls Tryz.prog g (#[.agg #[.int .i64 x.1, .int .i64 x.2]] ++ lb) W fun e w' => e = .returned (.bool (p x)) ∧ Below W.heap.size W w'

set_option maxHeartbeats 1000000 in
theorem idxRun_any (p : Int × Int → Bool) (g : Nat) (lb : Array Value) (l : List (Int × Int)) (v : Value) (w : World) (h : SlP w w.heap.size 2 RuE v l) (ht : TestRun g lb p w) :
    Calls Tryz.prog 185 #[v, .func (.func g) #[] lb] w fun e w' => e = .returned (.int .i64 (idxI p l)) ∧ Below w.heap.size w w' := by
  obtain ⟨A, n, rfl, b1, b2, b3⟩ := h
  obtain ⟨eg, ht⟩ := ht
  unfold Big at b2
  go_enter Tryz.func185, Tryz.ntmps185
  go_wp2_with fail
  go_loopw [8] (fun i wr => ∃ k : Nat, k ≤ l.length ∧ i = .int .i64 k ∧ Hid (∀ (j : Nat) y, j < k → l[j]? = some y → p y = false) ∧ Below w.heap.size w wr) (fun i _ => l.length - (intOf i).toNat)
  case atStart => exact ⟨0, Nat.zero_le _, rfl, fun j y hj => absurd hj (Nat.not_lt_zero _), Below.refl _ _⟩
  case round =>
    obtain ⟨k, hk, rfl, hrel, hb⟩ := hrel
    have hsz := hb.size
    by_cases hlt : k < l.length
    · obtain ⟨x, hx⟩ : ∃ x, l[k]? = some x := ⟨_, List.getElem?_eq_getElem hlt⟩
      obtain ⟨b, off, rfl, hbB, hc⟩ := b3 (by rintro rfl; simp at hlt)
      obtain ⟨cs, ⟨rfl, hok⟩, _, hu⟩ := hc k _ hx
      have e0 : wr.cell? ⟨b, off + k * 2, none⟩ = some (.int .i64 x.1) := (hb.cell hbB).trans (hu 0 _ rfl)
      have e1 : wr.cell? ⟨b, off + k * 2 + 1, none⟩ = some (.int .i64 x.2) := (hb.cell hbB).trans (hu 1 _ rfl)
      have hcall := ht x wr hb
      have HX := hid hx
      clear hu hx hc b3 hok ht
      cases hq : p x
      · have HQ := hid hq
        rw [hq] at hcall
        clear hq
        go_wp2_with (go_at_fn g; refine hcall.mono ?_; rintro e w1 ⟨rfl, hb1⟩)
        go_roundw
        case rel =>
          refine ⟨k + 1, by omega, by go_num, fun j y hj hy => ?_, hb.trans (hb1.mono hsz)⟩
          by_cases hjk : j = k
          · subst hjk; have h2 := HX.out; rw [hy] at h2; cases h2; exact HQ.out
          · exact hrel.out j y (by omega) hy
        case measure => simp [intOf]; omega
      · have HQ := hid hq
        rw [hq] at hcall
        clear hq
        go_wp2_with (go_at_fn g; refine hcall.mono ?_; rintro e w1 ⟨rfl, hb1⟩)
        go_ret
        exact ⟨ret_int (idxI_hit hrel.out HX.out HQ.out).symm, hb.trans (hb1.mono hsz)⟩
    · obtain rfl : k = l.length := by omega
      go_wp2_with fail
      go_ret
      exact ⟨ret_int (idxI_miss hrel.out).symm, hb⟩

theorem conRun_any (p : Int × Int → Bool) (g : Nat) (lb : Array Value) (l : List (Int × Int)) (v : Value) (w : World) (h : SlP w w.heap.size 2 RuE v l) (ht : TestRun g lb p w) :
    Calls Tryz.prog 162 #[v, .func (.func g) #[] lb] w fun e w' => e = .returned (.bool (l.any p)) ∧ Below w.heap.size w w' := by
  have hbd := idxI_bd p l
  have HA := hid (idxI_any p l)
  obtain ⟨A, n, rfl, b1, b2, b3⟩ := h
  unfold Big at b2
  go_enter Tryz.func162, Tryz.ntmps162
  go_wp2_with fail
  refine (idxRun_any p g lb l _ w ⟨A, n, rfl, b1, by unfold Big; omega, b3⟩ ht).mono ?_
  rintro e w1 ⟨rfl, hb1⟩
  go_wp2_with fail
  go_ret
  exact ⟨ret_bool HA.out, hb1⟩

theorem hasClo_any (x : Int × Int) (n : Int) (B : Nat) (w : World) (hc : w.cell? ⟨B, 0, none⟩ = some (.int .i64 n)) (hB : B < w.heap.size) :
    Calls Tryz.prog 163 #[.agg #[.int .i64 x.1, .int .i64 x.2], .pointer (some ⟨B, 0, none⟩)] w fun e w' => e = .returned (.bool (inR x n)) ∧ Below w.heap.size w w' := by
  have hne : B ≠ w.heap.size := by omega
  rcases t1 : decide (x.1 ≤ n)
  · have HR : Hid (inR x n = false) := by unfold Hid inR; rw [t1]; rfl
    go_enter Tryz.func163, Tryz.ntmps163
    go_wp2_with fail
    go_ret
    exact ⟨ret_bool HR.out.symm, by go_grown⟩
  · have HR : Hid (inR x n = decide (n ≤ x.2)) := by unfold Hid inR; rw [t1]; rfl
    go_enter Tryz.func163, Tryz.ntmps163
    go_wp2_with fail
    go_ret
    exact ⟨ret_bool HR.out.symm, by go_grown⟩

/-- What span.Has tells. -/
def sHas (l : List (Int × Int)) (n : Int) : Bool := runsR none l && hasL l n
theorem shas_any (l : List (Int × Int)) (n : Int) (v : Value) (w : World) (h : SlP w w.heap.size 2 RuE v l) :
    Calls Tryz.prog 139 #[v, .int .i64 n] w fun e w' => e = .returned (.bool (sHas l n)) ∧ Below w.heap.size w w' := by
  have hs : SlP (w.alloc (.cells #[.int .i64 n] 2)) (w.alloc (.cells #[.int .i64 n] 2)).heap.size 2 RuE v l := SlP.imp h ((Below.refl _ w).alloc (Nat.le_refl _) _) (by simp) fun _ _ _ h => h
  have HS := hid hs
  clear hs h
  go_enter Tryz.func139, Tryz.ntmps139
  go_wp2_with fail
  refine (sright_any l v _ HS.out).mono ?_
  rintro e w1 ⟨rfl, hb1⟩
  have hs1 := hb1.size
  simp only [World.size_alloc] at hs1
  have hB : Below w.heap.size w w1 := ((Below.refl _ w).alloc (Nat.le_refl _) _).trans (hb1.mono (by simp))
  have hc : w1.cell? ⟨w.heap.size, 0, none⟩ = some (.int .i64 n) := by rw [hb1.cell (p := ⟨w.heap.size, 0, none⟩) (by simp)]; simp
  have HT : Hid (TestRun 163 #[.pointer (some ⟨w.heap.size, 0, none⟩)] (fun r => inR r n) w1) :=
    ⟨enters_of Tryz.func163 (by kernel_rfl) rfl, fun x W hW => hasClo_any x n w.heap.size W ((hW.cell (p := ⟨w.heap.size, 0, none⟩) (by show w.heap.size < _; omega)).trans hc) (by have := hW.size; omega)⟩
  have hs2 : SlP w1 w1.heap.size 2 RuE v l := SlP.imp HS.out hb1 (by simpa using hs1) fun _ _ _ h => h
  have HS2 := hid hs2
  clear hs2
  cases hr : runsR none l
  · have HR : Hid (sHas l n = false) := by unfold Hid sHas; rw [hr]; rfl
    clear hr
    go_wp2_with fail
    go_ret
    exact ⟨ret_bool HR.out.symm, hB⟩
  · have HR : Hid (sHas l n = l.any fun r => inR r n) := by unfold Hid sHas; rw [hr]; rfl
    clear hr
    go_wp2_with fail
    refine (conRun_any (fun r => inR r n) _ _ l v w1 HS2.out HT.out).mono ?_
    rintro e w2 ⟨rfl, hb2⟩
    go_wp2_with fail
    go_ret
    exact ⟨ret_bool HR.out.symm, hB.trans (hb2.mono (by omega))⟩
end Go.Proofs.YtdcmjmcipgadlaaGreat

namespace Go.Proofs.YtdcmjmcipgadlaaGreat
open Go.RowKit
set_option maxRecDepth 100000

def cHas (c : List Sp) (d : Dt) : Bool := apartB c && (d.right && sHas (partL c d.dc) d.n)

set_option maxHeartbeats 4000000 in
theorem chas_any (c : List Sp) (d : Dt) (vc : Value) (w : World) (h : SlP w w.heap.size 3 SpE vc c) (hN : c.length ≤ 900000) :
    Calls Tryz.prog 114 #[vc, .agg #[.int .i64 d.dc, .int .i64 d.n]] w fun e w' => e = .returned (.bool (cHas c d)) ∧ Below w.heap.size w w' := by
  have HC : Hid (∀ w', Below w.heap.size w w' → SlP w' w'.heap.size 3 SpE vc c) := fun w' hb => h.imp hb hb.size (fun _ _ _ h => h)
  obtain ⟨A, n, rfl, _, _, _⟩ := h
  obtain ⟨dc, num⟩ := d
  go_enter Tryz.func114, Tryz.ntmps114
  go_wp2_with fail
  refine (apart_any c _ _ (HC.out _ ((Below.refl _ w).alloc (Nat.le_refl _) _)) hN).mono ?_
  rintro e w1 ⟨vs, rfl, hsl, hb1⟩
  have hs1 := hb1.size
  simp only [World.size_alloc] at hs1
  have hB1 : Below w.heap.size w w1 := ((Below.refl _ w).alloc (Nat.le_refl _) _).trans (hb1.mono (by simp))
  have b0 : w1.cell? ⟨w.heap.size, 0, none⟩ = some (.int .i64 dc) := by rw [hb1.cell (p := ⟨w.heap.size, 0, none⟩) (by simp)]; simp
  have b1 : w1.cell? ⟨w.heap.size, 1, none⟩ = some (.int .i64 num) := by rw [hb1.cell (p := ⟨w.heap.size, 1, none⟩) (by simp)]; simp
  obtain ⟨A0, m0, g0, _⟩ := hsl 0 (by omega)
  obtain ⟨A1, m1, g1, _⟩ := hsl 1 (by omega)
  obtain ⟨A2, m2, g2, _⟩ := hsl 2 (by omega)
  obtain ⟨A3, m3, g3, _⟩ := hsl 3 (by omega)
  have HSL := hid (fun i (hi : i < 4) => (hsl i hi).slp (fun b hb => hb.2) (Below.refl _ w1))
  clear hsl
  cases hap : apartB c
  · have HR : Hid (cHas c ⟨dc, num⟩ = false) := by unfold Hid cHas; rw [hap]; rfl
    simp only [hap, Bool.false_eq_true, if_false] at g0 g1 g2 g3
    simp only [g0, g1, g2, g3]
    clear hap g0 g1 g2 g3
    go_upto_region 2 with (fail)
    refine wp_region_far (w1.heap.size + 1) (by kernel_rfl) (by kernel_rfl) ?_
    repeat (go_big_quiet_step (fail))
    refine wpQuiet_nil ?_
    intro wq hbq
    have hbw : Below w.heap.size w wq := (hB1.alloc (by omega) _).trans (hbq.mono (by omega))
    go_wp2_with fail
    go_ret
    exact ⟨ret_bool HR.out.symm, hbw⟩
  simp only [hap, if_true] at g0 g1 g2 g3
  simp only [g0, g1, g2, g3]
  cases hr : Dt.right ⟨dc, num⟩
  · have HR : Hid (cHas c ⟨dc, num⟩ = false) := by unfold Hid cHas; rw [hap, hr]; rfl
    go_upto_region 2 with (fail)
    have f0 := far_cell (B := w1.heap.size + 1) (w := w1.alloc (.cells #[.slice A0 (partL c 0).length m0, .slice A1 (partL c 1).length m1, .slice A2 (partL c 2).length m2, .slice A3 (partL c 3).length m3] 120)) (b := w.heap.size) (o := 0) (v := .int .i64 dc) (by rw [World.cell?_alloc_lt _ _ _ (by show w.heap.size < _; omega)]; exact b0) (by omega)
    have f1 := far_cell (B := w1.heap.size + 1) (w := w1.alloc (.cells #[.slice A0 (partL c 0).length m0, .slice A1 (partL c 1).length m1, .slice A2 (partL c 2).length m2, .slice A3 (partL c 3).length m3] 120)) (b := w.heap.size) (o := 1) (v := .int .i64 num) (by rw [World.cell?_alloc_lt _ _ _ (by show w.heap.size < _; omega)]; exact b1) (by omega)
    have HRI := hid hr
    clear hap hr g0 g1 g2 g3
    refine wp_region_far (w1.heap.size + 1) (by kernel_rfl) (by kernel_rfl) ?_
    repeat (go_big_quiet_step ((go_at_call 113; exact Calls.far_of (by simp) (HRI.out ▸ dright_any ⟨dc, num⟩ _))))
    refine wpQuiet_nil ?_
    intro wq hbq
    have hbw : Below w.heap.size w wq := (hB1.alloc (by omega) _).trans (hbq.mono (by omega))
    go_wp2_with fail
    go_ret
    exact ⟨ret_bool HR.out.symm, hbw⟩
  · have hbd : (0 ≤ dc ∧ dc < 4) ∧ 1 ≤ num ∧ num ≤ 1099511627776 := by simpa [Dt.right, and_assoc] using hr
    obtain ⟨dn, rfl⟩ : ∃ dn : Nat, dc = (dn : Int) := ⟨dc.toNat, by omega⟩
    have hd4 : dn < 4 := by omega
    have hdi : (dn : Int) < 4 := by omega
    have HR : Hid (cHas c ⟨dn, num⟩ = sHas (partL c dn) num) := by unfold Hid cHas; rw [hap, hr]; rfl
    obtain ⟨Ad, md, gd, _⟩ := HSL.out dn hd4
    rw [if_pos hap] at gd
    have hcell : (w1.alloc (.cells #[.slice A0 (partL c 0).length m0, .slice A1 (partL c 1).length m1, .slice A2 (partL c 2).length m2, .slice A3 (partL c 3).length m3] 120)).cell? ⟨w1.heap.size, dn, none⟩ = some (.slice Ad (partL c dn).length md) := by
      rw [cell_cells (heap_new rfl), ← gd]
      match dn, hd4 with
      | 0, _ => rw [g0]; rfl
      | 1, _ => rw [g1]; rfl
      | 2, _ => rw [g2]; rfl
      | 3, _ => rw [g3]; rfl
    have HS3 : Hid (∀ w', Below w1.heap.size w1 w' → SlP w' w'.heap.size 2 RuE (.slice Ad (partL c dn).length md) (partL c dn)) := fun w' hb => by
      have := HSL.out dn hd4
      rw [if_pos hap, gd] at this
      exact this.imp hb hb.size fun _ _ _ h => h
    go_upto_region 2 with (fail)
    have f0 := far_cell (B := w1.heap.size + 1) (w := w1.alloc (.cells #[.slice A0 (partL c 0).length m0, .slice A1 (partL c 1).length m1, .slice A2 (partL c 2).length m2, .slice A3 (partL c 3).length m3] 120)) (b := w.heap.size) (o := 0) (v := .int .i64 (dn : Int)) (by rw [World.cell?_alloc_lt _ _ _ (by show w.heap.size < _; omega)]; exact b0) (by omega)
    have f1 := far_cell (B := w1.heap.size + 1) (w := w1.alloc (.cells #[.slice A0 (partL c 0).length m0, .slice A1 (partL c 1).length m1, .slice A2 (partL c 2).length m2, .slice A3 (partL c 3).length m3] 120)) (b := w.heap.size) (o := 1) (v := .int .i64 num) (by rw [World.cell?_alloc_lt _ _ _ (by show w.heap.size < _; omega)]; exact b1) (by omega)
    have f2 := far_cell (B := w1.heap.size + 1) hcell (by omega)
    have HRI := hid hr
    clear hap hr g0 g1 g2 g3 gd hcell
    refine wp_region_far (w1.heap.size + 1) (by kernel_rfl) (by kernel_rfl) ?_
    repeat (go_big_quiet_step (first | (go_at_call 113; exact Calls.far_of (by simp) (HRI.out ▸ dright_any ⟨dn, num⟩ _)) | (go_at_call 139; exact Calls.far_all (by simp) (fun w' hb' => shas_any (partL c dn) num _ w' (HS3.out w' (((Below.refl _ w1).alloc (Nat.le_refl _) _).trans (hb'.mono (by omega))))))))
    refine wpQuiet_nil ?_
    intro wq hbq
    have hbw : Below w.heap.size w wq := (hB1.alloc (by omega) _).trans (hbq.mono (by omega))
    go_wp2_with fail
    go_ret
    exact ⟨ret_bool HR.out.symm, hbw⟩
end Go.Proofs.YtdcmjmcipgadlaaGreat

namespace Go.Proofs.YtdcmjmcipgadlaaGreat
open Go.RowKit

theorem dcsOk_of : ∀ (c : List Sp) (L : Int), c.Pairwise (fun a b => a.dc ≤ b.dc) → (∀ s ∈ c, L ≤ s.dc ∧ s.dc < 4) → dcsOk L c = true
  | [], _, _, _ => rfl
  | s :: c, L, hp, ha => by
    rw [List.pairwise_cons] at hp
    rw [dcsOk, dcsOk_of c s.dc hp.2 (fun x hx => ⟨hp.1 x hx, (ha x (by simp [hx])).2⟩)]
    have := ha s (by simp)
    simp [this]
theorem wholeK_dc (ls : Nat → List (Int × Int)) : ∀ k, ∀ s ∈ wholeK ls k, 0 ≤ s.dc ∧ s.dc < k
  | 0, s, h => by simp [wholeK] at h
  | k + 1, s, h => by
    rw [wholeK_succ] at h
    rcases List.mem_append.1 h with h | h
    · have := wholeK_dc ls k s h; omega
    · obtain ⟨r, _, rfl⟩ := List.mem_map.1 h
      show 0 ≤ (k : Int) ∧ (k : Int) < _
      omega
theorem wholeK_pw (ls : Nat → List (Int × Int)) : ∀ k, (wholeK ls k).Pairwise fun a b => a.dc ≤ b.dc
  | 0 => by simp [wholeK]
  | k + 1 => by
    rw [wholeK_succ, List.pairwise_append]
    refine ⟨wholeK_pw ls k, ?_, fun a ha b hb => ?_⟩
    · unfold spansL
      rw [List.pairwise_map]
      exact List.pairwise_of_forall fun _ _ => Int.le_refl _
    · obtain ⟨r, _, rfl⟩ := List.mem_map.1 hb
      have := wholeK_dc ls k a ha
      show a.dc ≤ (k : Int)
      omega
theorem partL_app (a b : List Sp) (dc : Int) : partL (a ++ b) dc = partL a dc ++ partL b dc := by simp [partL]
theorem partL_spans (l : List (Int × Int)) (d dc : Int) : partL (spansL d l) dc = if d = dc then l else [] := by
  unfold partL spansL
  rw [List.filter_map, List.map_map]
  by_cases e : d = dc
  · rw [if_pos e]
    rw [List.filter_eq_self.2 (fun x _ => by simp [e])]
    exact List.map_id'' (fun x => rfl) l
  · rw [if_neg e, List.filter_eq_nil_iff.2 (fun x _ => by simp [e])]; rfl
theorem partL_whole (ls : Nat → List (Int × Int)) : ∀ (k d : Nat), partL (wholeK ls k) d = if d < k then ls d else []
  | 0, d => by simp [wholeK, partL]
  | k + 1, d => by
    rw [wholeK_succ, partL_app, partL_whole ls k d, partL_spans]
    by_cases e : d = k
    · subst e; rw [if_neg (Nat.lt_irrefl _), if_pos rfl, if_pos (Nat.lt_succ_self _)]; rfl
    · rw [if_neg (show ¬ (k : Int) = (d : Int) by omega), List.append_nil]
      by_cases h : d < k
      · rw [if_pos h, if_pos (by omega)]
      · rw [if_neg h, if_neg (by omega)]
theorem apart_whole {ls : Nat → List (Int × Int)} (h : ∀ i, i < 4 → runsR none (ls i) = true) : apartB (wholeK ls 4) = true := by
  unfold apartB
  rw [dcsOk_of _ 0 (wholeK_pw ls 4) (fun s hs => by have := wholeK_dc ls 4 s hs; omega), Bool.true_and, List.all_eq_true]
  intro i hi
  have hi4 : i < 4 := List.mem_range.1 hi
  rw [partL_whole, if_pos hi4]
  exact h i hi4
/-- Two contexts put together of sets of the same numbers are the same. -/
theorem whole_eq {ls ms : Nat → List (Int × Int)} (h : ∀ i, i < 4 → ls i = ms i) : wholeK ls 4 = wholeK ms 4 := by
  unfold wholeK
  rw [List.flatMap_def, List.flatMap_def]
  congr 1
  apply List.map_congr_left
  intro i hi
  rw [h i (List.mem_range.1 hi)]

theorem ctxOf_whole (l : List Dt) : ctxOf l = wholeK (fun i => ofL (numsL l i)) 4 := rfl
theorem nums_ok {l : List Dt} (h : ∀ d ∈ l, d.right = true) (dc : Int) : ∀ x ∈ numsL l dc, 1 ≤ x ∧ x ≤ 1099511627776 := fun x hx => by
  unfold numsL at hx
  obtain ⟨d, hd, rfl⟩ := List.mem_map.1 hx
  have h1 := h d (List.mem_filter.1 hd).1
  simp [Dt.right] at h1
  omega
theorem apart_ctxOf {l : List Dt} (h : ∀ d ∈ l, d.right = true) : apartB (ctxOf l) = true := by
  rw [ctxOf_whole]
  exact apart_whole fun i _ => (ofL_right (nums_ok h i)).1
theorem part_ctxOf (l : List Dt) {d : Nat} (hd : d < 4) : partL (ctxOf l) d = ofL (numsL l d) := by
  rw [ctxOf_whole, partL_whole, if_pos hd]
/-- Of right contexts, context.Has tells what the reference's tells. -/
theorem cHas_eq {c : List Sp} (h : apartB c = true) (d : Dt) : cHas c d = hasC c d := by
  unfold cHas hasC sHas
  rw [h, Bool.true_and]
  cases hd : d.right with
  | false => rfl
  | true =>
    simp only [Bool.true_and]
    have hb : 0 ≤ d.dc ∧ d.dc < 4 := by simp [Dt.right] at hd; omega
    obtain ⟨n, hn⟩ : ∃ n : Nat, d.dc = (n : Int) := ⟨d.dc.toNat, by omega⟩
    unfold apartB at h
    rw [Bool.and_eq_true, List.all_eq_true] at h
    have := h.2 n (List.mem_range.2 (by omega))
    rw [hn, this]; rfl
theorem hasC_ctxOf {l : List Dt} (h : ∀ d ∈ l, d.right = true) {d : Dt} (hd : d.right = true) : hasC (ctxOf l) d = decide (d ∈ l) := by
  have hb : 0 ≤ d.dc ∧ d.dc < 4 := by simp [Dt.right] at hd; omega
  obtain ⟨n, hn⟩ : ∃ n : Nat, d.dc = (n : Int) := ⟨d.dc.toNat, by omega⟩
  unfold hasC
  rw [hd, Bool.true_and, hn, part_ctxOf l (by omega), Bool.eq_iff_iff, (ofL_right (nums_ok h n)).2, decide_eq_true_eq]
  unfold numsL
  rw [List.mem_map]
  constructor
  · rintro ⟨x, hx, he⟩
    obtain ⟨hx1, hx2⟩ := List.mem_filter.1 hx
    have : x = d := by cases x; cases d; simp at *; exact ⟨hx2.trans hn.symm, he⟩
    rw [← this]; exact hx1
  · intro hm
    exact ⟨d, List.mem_filter.2 ⟨hm, by simp [hn]⟩, rfl⟩
end Go.Proofs.YtdcmjmcipgadlaaGreat

namespace Go.Proofs.YtdcmjmcipgadlaaGreat
open Go.RowKit

theorem build_one_leaf (x : En) : buildL [([], x)] = .mk [x] [] := by
  unfold buildL deepL
  simp only [List.map_cons, List.map_nil, List.length_nil, List.sum_cons, List.sum_nil, Nat.add_zero]
  rw [buildT]
  have h1 : selEnts [([], x)] = [x] := by
    unfold selEnts
    have hi := lt_irrefl' x.dot
    simp [entsGo, bestE, selS, selC, okP, hi]
  have h2 : bestK [(([] : List ByteArray), x)] ByteArray.empty = ByteArray.empty := by simp [bestK, keyS, keyC]
  rw [h1]
  simp [kidsGo, h2]
theorem ofL_nil : ofL [] = [] := by simp [ofL, ofGo, nextL]
theorem ofL_one {n : Int} (h : 1 ≤ n ∧ n ≤ 1099511627776) : ofL [n] = [(n, n)] := by
  obtain ⟨h1, h2⟩ := ofL_right (ps := [n]) (fun x hx => by simp at hx; subst hx; exact h)
  refine runs_eq _ _ none none h1 ((runsR_one none (n, n)).2 ⟨⟨h.1, Int.le_refl _, h.2⟩, rfl⟩) fun m => ?_
  rw [Bool.eq_iff_iff, h2]
  simp [hasL, inR]
  omega
theorem right_bd {d : Dt} (h : d.right = true) : (0 ≤ d.dc ∧ d.dc < 4) ∧ 1 ≤ d.n ∧ d.n ≤ 1099511627776 := by simpa [Dt.right, and_assoc] using h
theorem ctxOf_one {d : Dt} (h : d.right = true) : ctxOf [d] = [⟨d.dc, d.n, d.n⟩] := by
  obtain ⟨h1, h2⟩ := right_bd h
  rw [ctxOf_whole]
  have hk : ∀ i : Nat, ofL (numsL [d] (i : Int)) = if d.dc = (i : Int) then [(d.n, d.n)] else [] := fun i => by
    by_cases e : d.dc = (i : Int)
    · rw [if_pos e, show numsL [d] (i : Int) = [d.n] by simp [numsL, e], ofL_one h2]
    · rw [if_neg e, show numsL [d] (i : Int) = [] by simp [numsL, e], ofL_nil]
  unfold wholeK
  simp only [hk]
  rcases (show d.dc = 0 ∨ d.dc = 1 ∨ d.dc = 2 ∨ d.dc = 3 by omega) with e | e | e | e <;> simp [e, List.range_succ, spansL]
theorem ctxBy_whole (a b : List Sp) (how : Int) : ctxBy a b how = wholeK (fun i => byL (partL a i) (partL b i) how) 4 := rfl
theorem runs_ok : ∀ (l : List (Int × Int)) (p : Option Int), runsR p l = true → ∀ r ∈ l, runOk r
  | x :: l, p, h, r, hr => by
    rw [runsR_iff] at h
    rcases List.mem_cons.1 hr with rfl | hr
    · exact h.1
    · exact runs_ok l _ h.2.2 r hr
theorem apart_part {c : List Sp} (h : apartB c = true) {i : Nat} (hi : i < 4) : runsR none (partL c i) = true := by
  unfold apartB at h
  rw [Bool.and_eq_true, List.all_eq_true] at h
  exact h.2 i (List.mem_range.2 hi)
theorem apart_dcs : ∀ (c : List Sp) (L : Int), dcsOk L c = true → ∀ s ∈ c, L ≤ s.dc ∧ s.dc < 4
  | s :: c, L, h, x, hx => by
    rw [dcsOk, Bool.and_eq_true, Bool.and_eq_true, decide_eq_true_eq, decide_eq_true_eq] at h
    rcases List.mem_cons.1 hx with rfl | hx
    · exact ⟨h.1.1, h.1.2⟩
    · have := apart_dcs c s.dc h.2 x hx; exact ⟨by omega, this.2⟩
theorem dcs_split : ∀ (c : List Sp) (L : Nat), dcsOk (L : Int) c = true → ∀ n, L + n = 4 → c = (List.range' L n).flatMap fun (dc : Nat) => spansL (dc : Int) (partL c (dc : Int))
  | c, L, h, 0, hn => by
    cases c with
    | nil => rfl
    | cons s c => have := apart_dcs _ _ h s (by simp); omega
  | c, L, h, n + 1, hn => by
    rw [List.range'_succ, List.flatMap_cons]
    have key : ∀ (c : List Sp) (L : Int), dcsOk L c = true → ∃ c', c = spansL L (partL c L) ++ c' ∧ dcsOk (L + 1) c' = true := by
      intro c
      induction c with
      | nil => intro L _; exact ⟨[], by simp [partL, spansL], rfl⟩
      | cons s c ih =>
        intro L h
        rw [dcsOk, Bool.and_eq_true, Bool.and_eq_true, decide_eq_true_eq, decide_eq_true_eq] at h
        obtain ⟨⟨h1, h2⟩, h3⟩ := h
        by_cases e : s.dc = L
        · rw [e] at h3
          obtain ⟨c', hc, hd⟩ := ih L h3
          refine ⟨c', ?_, hd⟩
          have hp : partL (s :: c) L = (s.fr, s.hi) :: partL c L := by simp [partL, e]
          rw [hp]
          conv => lhs; rw [hc]
          unfold spansL
          rw [List.map_cons, List.cons_append]
          congr 1
          cases s; simp at e; simp [e]
        · refine ⟨s :: c, ?_, ?_⟩
          · have hp : partL (s :: c) L = [] := by
              unfold partL
              rw [List.filter_eq_nil_iff.2, List.map_nil]
              intro x hx
              have : s.dc ≤ x.dc := by
                rcases List.mem_cons.1 hx with rfl | hx
                · exact Int.le_refl _
                · exact (apart_dcs c s.dc h3 x hx).1
              simp; omega
            rw [hp]; rfl
          · rw [dcsOk, h3]; simp; omega
    obtain ⟨c', hc, hd⟩ := key c L h
    have ih := dcs_split c' (L + 1) (by exact_mod_cast hd) n (by omega)
    have hpc : ∀ dc : Nat, L + 1 ≤ dc → partL c dc = partL c' dc := fun dc hdc => by
      rw [hc, partL_app, partL_spans, if_neg (by omega)]; rfl
    conv => lhs; rw [hc, ih]
    congr 1
    rw [List.flatMap_def, List.flatMap_def]
    congr 1
    apply List.map_congr_left
    intro i hi
    rw [hpc i (by have := List.mem_range'_1.1 hi; omega)]
/-- A right context is put together of its parts. -/
theorem whole_part {c : List Sp} (h : apartB c = true) : wholeK (fun i => partL c i) 4 = c := by
  unfold apartB at h
  rw [Bool.and_eq_true] at h
  have := dcs_split c 0 h.1 4 rfl
  unfold wholeK
  rw [List.range_eq_range']
  exact this.symm
/-- The reference's union with nothing. -/
theorem union_nil {c : List Sp} (h : apartB c = true) : ctxBy [] c 0 = c := by
  rw [ctxBy_whole]
  conv => rhs; rw [← whole_part h]
  refine whole_eq fun i hi => ?_
  have hr := apart_part h hi
  have ha : ∀ r ∈ partL ([] : List Sp) i, runOk r := fun r hr => by simp [partL] at hr
  obtain ⟨h1, h2⟩ := byL_right (a := partL ([] : List Sp) i) (b := partL c i) 0 ha (runs_ok _ _ hr)
  refine runs_eq _ _ none none h1 hr fun n => ?_
  rw [h2]
  simp [inn, hasL, partL]
theorem put_ctx {d : Dt} (h : d.right = true) : ctxBy [] [⟨d.dc, d.n, d.n⟩] 0 = ctxOf [d] := by
  rw [← ctxOf_one h]
  exact union_nil (apart_ctxOf fun x hx => by simp at hx; subst hx; exact h)
end Go.Proofs.YtdcmjmcipgadlaaGreat

namespace Go.Proofs.YtdcmjmcipgadlaaGreat
open Go.RowKit
set_option maxRecDepth 100000

/-- A test on texts. -/
def TestStr (g : Nat) (lb : Array Value) (p : ByteArray → Bool) (w : World) : Prop :=
  (∀ args W, (callFunc g args).run Tryz.prog W = .ok (.enter g args) W) ∧
  ∀ (x : ByteArray) (W : World), x.size ≤ Big → Below w.heap.size w W → Calls Tryz.prog g (#[.string x] ++ lb) W fun e w' => e = .returned (.bool (p x)) ∧ Below W.heap.size W w'
/-- A test on kids that looks at the key alone. -/
def TestKid (g : Nat) (lb : Array Value) (p : ByteArray → Bool) (w : World) : Prop :=
  (∀ args W, (callFunc g args).run Tryz.prog W = .ok (.enter g args) W) ∧
  ∀ (x : ByteArray) (A A' : Option Addr) (n c n' c' : Nat) (W : World), x.size ≤ Big → Below w.heap.size w W → Calls Tryz.prog g (#[.agg #[.string x, .slice A n c, .slice A' n' c']] ++ lb) W fun e w' => e = .returned (.bool (p x)) ∧ Below W.heap.size W w'

set_option maxHeartbeats 1000000 in
theorem idxStr_any (p : ByteArray → Bool) (g : Nat) (lb : Array Value) (l : List ByteArray) (v : Value) (w : World) (h : SlP w w.heap.size 1 StE v l) (ht : TestStr g lb p w) :
    Calls Tryz.prog 135 #[v, .func (.func g) #[] lb] w fun e w' => e = .returned (.int .i64 (idxI p l)) ∧ Below w.heap.size w w' := by
  obtain ⟨A, n, rfl, b1, b2, b3⟩ := h
  obtain ⟨eg, ht⟩ := ht
  unfold Big at b2
  go_enter Tryz.func135, Tryz.ntmps135
  go_wp2_with fail
  go_loopw [8] (fun i wr => ∃ k : Nat, k ≤ l.length ∧ i = .int .i64 k ∧ Hid (∀ (j : Nat) y, j < k → l[j]? = some y → p y = false) ∧ Below w.heap.size w wr) (fun i _ => l.length - (intOf i).toNat)
  case atStart => exact ⟨0, Nat.zero_le _, rfl, fun j y hj => absurd hj (Nat.not_lt_zero _), Below.refl _ _⟩
  case round =>
    obtain ⟨k, hk, rfl, hrel, hb⟩ := hrel
    have hsz := hb.size
    by_cases hlt : k < l.length
    · obtain ⟨x, hx⟩ : ∃ x, l[k]? = some x := ⟨_, List.getElem?_eq_getElem hlt⟩
      obtain ⟨b, off, rfl, hbB, hc⟩ := b3 (by rintro rfl; simp at hlt)
      obtain ⟨cs, ⟨rfl, hok⟩, _, hu⟩ := hc k _ hx
      have e0 : wr.cell? ⟨b, off + k, none⟩ = some (.string x) := (hb.cell hbB).trans (by simpa using hu 0 _ rfl)
      have hcall := ht x wr hok hb
      have HX := hid hx
      have hpx : p x = p x := rfl
      clear hu hx hc b3 ht
      cases hq : p x
      · have HQ : Hid (p x = false) := hpx.trans hq
        rw [hq] at hcall
        clear hq hpx
        go_wp2_with (go_at_fn g; refine hcall.mono ?_; rintro e w1 ⟨rfl, hb1⟩)
        go_roundw
        case rel =>
          refine ⟨k + 1, by omega, by go_num, fun j y hj hy => ?_, hb.trans (hb1.mono hsz)⟩
          by_cases hjk : j = k
          · subst hjk; have h2 := HX.out; rw [hy] at h2; cases h2; exact HQ.out
          · exact hrel.out j y (by omega) hy
        case measure => simp [intOf]; omega
      · have HQ : Hid (p x = true) := hpx.trans hq
        rw [hq] at hcall
        clear hq hpx
        go_wp2_with (go_at_fn g; refine hcall.mono ?_; rintro e w1 ⟨rfl, hb1⟩)
        go_ret
        exact ⟨ret_int (idxI_hit hrel.out HX.out HQ.out).symm, hb.trans (hb1.mono hsz)⟩
    · obtain rfl : k = l.length := by omega
      go_wp2_with fail
      go_ret
      exact ⟨ret_int (idxI_miss hrel.out).symm, hb⟩

theorem conStr_any (p : ByteArray → Bool) (g : Nat) (lb : Array Value) (l : List ByteArray) (v : Value) (w : World) (h : SlP w w.heap.size 1 StE v l) (ht : TestStr g lb p w) :
    Calls Tryz.prog 103 #[v, .func (.func g) #[] lb] w fun e w' => e = .returned (.bool (l.any p)) ∧ Below w.heap.size w w' := by
  have hbd := idxI_bd p l
  have HA := hid (idxI_any p l)
  obtain ⟨A, n, rfl, b1, b2, b3⟩ := h
  unfold Big at b2
  go_enter Tryz.func103, Tryz.ntmps103
  go_wp2_with fail
  refine (idxStr_any p g lb l _ w ⟨A, n, rfl, b1, by unfold Big; omega, b3⟩ ht).mono ?_
  rintro e w1 ⟨rfl, hb1⟩
  go_wp2_with fail
  go_ret
  exact ⟨ret_bool HA.out, hb1⟩

set_option maxHeartbeats 1000000 in
theorem idxKid_any (p : ByteArray → Bool) (g : Nat) (lb : Array Value) (l : List Kd) (v : Value) (w : World) (h : SlP w w.heap.size 3 (KdE w w.heap.size) v l) (ht : TestKid g lb p w) :
    Calls Tryz.prog 102 #[v, .func (.func g) #[] lb] w fun e w' => e = .returned (.int .i64 (idxI (fun y => p y.1) l)) ∧ Below w.heap.size w w' := by
  obtain ⟨A, n, rfl, b1, b2, b3⟩ := h
  obtain ⟨eg, ht⟩ := ht
  unfold Big at b2
  go_enter Tryz.func102, Tryz.ntmps102
  go_wp2_with fail
  go_loopw [8] (fun i wr => ∃ k : Nat, k ≤ l.length ∧ i = .int .i64 k ∧ Hid (∀ (j : Nat) y, j < k → l[j]? = some y → (fun y => p y.1) y = false) ∧ Below w.heap.size w wr) (fun i _ => l.length - (intOf i).toNat)
  case atStart => exact ⟨0, Nat.zero_le _, rfl, fun j y hj => absurd hj (Nat.not_lt_zero _), Below.refl _ _⟩
  case round =>
    obtain ⟨k, hk, rfl, hrel, hb⟩ := hrel
    have hsz := hb.size
    by_cases hlt : k < l.length
    · obtain ⟨x, hx⟩ : ∃ x, l[k]? = some x := ⟨_, List.getElem?_eq_getElem hlt⟩
      obtain ⟨b, off, rfl, hbB, hc⟩ := b3 (by rintro rfl; simp at hlt)
      obtain ⟨cs, ⟨ve, vk, rfl, hok, hrd⟩, _, hu⟩ := hc k _ hx
      obtain ⟨A3, n3, A4, n4, rfl, rfl⟩ := rd_shape hrd
      have e0 : wr.cell? ⟨b, off + k * 3, none⟩ = some (.string x.1) := (hb.cell hbB).trans (hu 0 _ rfl)
      have e1 : wr.cell? ⟨b, off + k * 3 + 1, none⟩ = some (.slice A3 x.2.es.length n3) := (hb.cell hbB).trans (hu 1 _ rfl)
      have e2 : wr.cell? ⟨b, off + k * 3 + 2, none⟩ = some (.slice A4 x.2.ks.length n4) := (hb.cell hbB).trans (hu 2 _ rfl)
      have hcall := ht x.1 A3 A4 x.2.es.length n3 x.2.ks.length n4 wr hok hb
      have HX := hid hx
      have hpx : (fun y => p y.1) x = p x.1 := rfl
      clear hu hx hc b3 ht
      cases hq : p x.1
      · have HQ : Hid ((fun y => p y.1) x = false) := hpx.trans hq
        rw [hq] at hcall
        clear hq hpx
        go_wp2_with (go_at_fn g; refine hcall.mono ?_; rintro e w1 ⟨rfl, hb1⟩)
        go_roundw
        case rel =>
          refine ⟨k + 1, by omega, by go_num, fun j y hj hy => ?_, hb.trans (hb1.mono hsz)⟩
          by_cases hjk : j = k
          · subst hjk; have h2 := HX.out; rw [hy] at h2; cases h2; exact HQ.out
          · exact hrel.out j y (by omega) hy
        case measure => simp [intOf]; omega
      · have HQ : Hid ((fun y => p y.1) x = true) := hpx.trans hq
        rw [hq] at hcall
        clear hq hpx
        go_wp2_with (go_at_fn g; refine hcall.mono ?_; rintro e w1 ⟨rfl, hb1⟩)
        go_ret
        exact ⟨ret_int (idxI_hit hrel.out HX.out HQ.out).symm, hb.trans (hb1.mono hsz)⟩
    · obtain rfl : k = l.length := by omega
      go_wp2_with fail
      go_ret
      exact ⟨ret_int (idxI_miss hrel.out).symm, hb⟩

theorem conKid_any (p : ByteArray → Bool) (g : Nat) (lb : Array Value) (l : List Kd) (v : Value) (w : World) (h : SlP w w.heap.size 3 (KdE w w.heap.size) v l) (ht : TestKid g lb p w) :
    Calls Tryz.prog 67 #[v, .func (.func g) #[] lb] w fun e w' => e = .returned (.bool (l.any (fun y => p y.1))) ∧ Below w.heap.size w w' := by
  have hbd := idxI_bd (fun y => p y.1) l
  have HA := hid (idxI_any (fun y => p y.1) l)
  obtain ⟨A, n, rfl, b1, b2, b3⟩ := h
  unfold Big at b2
  go_enter Tryz.func67, Tryz.ntmps67
  go_wp2_with fail
  refine (idxKid_any p g lb l _ w ⟨A, n, rfl, b1, by unfold Big; omega, b3⟩ ht).mono ?_
  rintro e w1 ⟨rfl, hb1⟩
  go_wp2_with fail
  go_ret
  exact ⟨ret_bool HA.out, hb1⟩

end Go.Proofs.YtdcmjmcipgadlaaGreat

namespace Go.Proofs.YtdcmjmcipgadlaaGreat
open Go.RowKit
set_option maxRecDepth 100000

theorem updClo_any (key x : ByteArray) (A A' : Option Addr) (n c n' c' : Nat) (B : Nat) (w : World) (hc : w.cell? ⟨B, 0, none⟩ = some (.string key)) (hB : B < w.heap.size) :
    Calls Tryz.prog 68 #[.agg #[.string x, .slice A n c, .slice A' n' c'], .pointer (some ⟨B, 0, none⟩)] w fun e w' => e = .returned (.bool (decide (x = key))) ∧ Below w.heap.size w w' := by
  have hne : B ≠ w.heap.size := by omega
  have HE : Hid ((x.toList == key.toList) = decide (x = key)) := by
    unfold Hid; rw [Bool.eq_iff_iff]; simp [bytes_inj]
  go_enter Tryz.func68, Tryz.ntmps68
  go_wp2_with fail
  go_ret
  exact ⟨ret_bool HE.out, by go_grown⟩
theorem updTest {key : ByteArray} {B : Nat} {w : World} (hc : w.cell? ⟨B, 0, none⟩ = some (.string key)) (hB : B < w.heap.size) : TestKid 68 #[.pointer (some ⟨B, 0, none⟩)] (fun x => decide (x = key)) w :=
  ⟨enters_of Tryz.func68 (by kernel_rfl) rfl, fun x A A' n c n' c' W _ hW => updClo_any key x A A' n c n' c' B W ((hW.cell (p := ⟨B, 0, none⟩) hB).trans hc) (by have := hW.size; omega)⟩
end Go.Proofs.YtdcmjmcipgadlaaGreat

namespace Go.Proofs.YtdcmjmcipgadlaaGreat
open Go.RowKit
set_option maxRecDepth 100000

theorem getClo_any (key x : ByteArray) (A A' : Option Addr) (n c n' c' : Nat) (B : Nat) (w : World) (hc : w.cell? ⟨B, 0, none⟩ = some (.string key)) (hB : B < w.heap.size) :
    Calls Tryz.prog 149 #[.agg #[.string x, .slice A n c, .slice A' n' c'], .pointer (some ⟨B, 0, none⟩)] w fun e w' => e = .returned (.bool (decide (x = key))) ∧ Below w.heap.size w w' := by
  have hne : B ≠ w.heap.size := by omega
  have HE : Hid ((x.toList == key.toList) = decide (x = key)) := by
    unfold Hid; rw [Bool.eq_iff_iff]; simp [bytes_inj]
  go_enter Tryz.func149, Tryz.ntmps149
  go_wp2_with fail
  go_ret
  exact ⟨ret_bool HE.out, by go_grown⟩
theorem getTest {key : ByteArray} {B : Nat} {w : World} (hc : w.cell? ⟨B, 0, none⟩ = some (.string key)) (hB : B < w.heap.size) : TestKid 149 #[.pointer (some ⟨B, 0, none⟩)] (fun x => decide (x = key)) w :=
  ⟨enters_of Tryz.func149 (by kernel_rfl) rfl, fun x A A' n c n' c' W _ hW => getClo_any key x A A' n c n' c' B W ((hW.cell (p := ⟨B, 0, none⟩) hB).trans hc) (by have := hW.size; omega)⟩

theorem kid_idx (t : Tr) (s : ByteArray) : (idxI (fun y : Kd => decide (y.1 = s)) t.ks = -1 ∧ kidT t s = .mk [] []) ∨ ∃ (k : Nat) (u : Tr), idxI (fun y : Kd => decide (y.1 = s)) t.ks = (k : Int) ∧ t.ks[k]? = some (s, u) ∧ kidT t s = u := by
  unfold idxI kidT
  cases h : t.ks.findIdx? fun y => decide (y.1 = s) with
  | none =>
    rw [List.findIdx?_eq_none_iff] at h
    exact .inl ⟨rfl, by rw [List.find?_eq_none.2 fun x hx => by simpa using h x hx]⟩
  | some i =>
    rw [List.findIdx?_eq_some_iff_getElem] at h
    obtain ⟨hlt, hp, hm⟩ := h
    have hf : t.ks.find? (fun x => decide (x.1 = s)) = some t.ks[i] := by
      rw [List.find?_eq_some_iff_getElem]
      exact ⟨hp, i, hlt, rfl, fun j hj => by simpa using hm j hj⟩
    refine .inr ⟨i, t.ks[i].2, rfl, ?_, by rw [hf]⟩
    rw [List.getElem?_eq_getElem hlt]
    have : t.ks[i].1 = s := by simpa using hp
    rw [← this]
theorem getK_nil : ∀ p : List ByteArray, getK (.mk [] []) p = .mk [] []
  | [] => rfl
  | s :: p => by
    show getK (kidT (.mk [] []) s) p = _
    rw [show kidT (.mk [] []) s = .mk [] [] from rfl]; exact getK_nil p
/-- What tree.Get tells. -/
def tgetT (t : Tr) (p : List ByteArray) : Tr := if t.right 5 then getK t p else .mk [] []

theorem kids_slp {t : Tr} {w : World} {B : Nat} {ve vk : Value} (h : t.rd w B ve vk) : SlP w B 3 (KdE w B) vk t.ks := by
  obtain ⟨es, ks⟩ := t; exact (rd_iff.1 h).2
set_option maxHeartbeats 4000000 in
theorem tget_any (t : Tr) (p : List ByteArray) (ve vk vp : Value) (w : World) (h : t.rd w w.heap.size ve vk) (hp : SlP w w.heap.size 1 StE vp p) (hN : t.sz ≤ 900000) :
    Calls Tryz.prog 124 #[.agg #[ve, vk], vp] w (RetT w (tgetT t p)) := by
  have HC : Hid (∀ w', Below w.heap.size w w' → t.rd w' w'.heap.size ve vk) := fun w' hb => rd_below hb hb.size _ _ _ h
  have HD := hid h
  obtain ⟨A3, n3, A4, n4, rfl, rfl⟩ := rd_shape h
  obtain ⟨Ap, cp, rfl, p1, p2, p3⟩ := hp
  unfold Big at p2
  have hb0 : Below w.heap.size w ((w.alloc (.cells #[.slice A3 t.es.length n3, .slice A4 t.ks.length n4] 25)).alloc (.cells #[.slice none 0 0, .slice none 0 0] 25)) := ((Below.refl _ w).alloc (Nat.le_refl _) _).alloc (by simp) _
  have HW : Hid (∀ w', Below (w.heap.size + 2) ((w.alloc (.cells #[.slice A3 t.es.length n3, .slice A4 t.ks.length n4] 25)).alloc (.cells #[.slice none 0 0, .slice none 0 0] 25)) w' → Below w.heap.size w w' ∧ w.heap.size + 2 ≤ w'.heap.size ∧ w'.heap[w.heap.size]? = some (.cells #[.slice A3 t.es.length n3, .slice A4 t.ks.length n4] 25 (0, 0)) ∧ w'.heap[w.heap.size + 1]? = some (.cells #[.slice none 0 0, .slice none 0 0] 25 (0, 0))) := fun w' hb => by
    have hB : Below w.heap.size w w' := hb0.trans (hb.mono (by omega))
    exact ⟨hB, by have := hb.size; simpa using this, (hb.block _ (by omega)).trans ((heap_old (by simp)).trans (heap_new rfl)), (hb.block _ (by omega)).trans (heap_new (by simp))⟩
  clear h
  go_enter Tryz.func124, Tryz.ntmps124
  go_wp2_with fail
  refine (tRight_any t _ _ _ (HC.out _ hb0)).mono ?_
  rintro e w1 ⟨rfl, hb1⟩
  obtain ⟨hB1, hs1, g2, g4⟩ := HW.out _ (hb1.mono (show w.heap.size + 2 ≤ _ by simp))
  have HG2 := hid g2
  have HG4 := hid g4
  have k0 : w1.cell? ⟨w.heap.size + 1, 0, none⟩ = some (.slice none 0 0) := cell_cells (i := 0) g4
  have k1 : w1.cell? ⟨w.heap.size + 1, 1, none⟩ = some (.slice none 0 0) := cell_cells (i := 1) g4
  have z0 := cells_frz (i := 0) g4
  have z1 := cells_frz (i := 1) g4
  clear hb1 g2 g4
  cases hr : t.right 5
  · have HTT : Hid (tgetT t p = .mk [] []) := by unfold Hid tgetT; rw [hr]; rfl
    clear hr
    go_wp2_with fail
    have hW0 := cells_set (i := 1) (cells_set (i := 0) HG4.out (.slice none 0 0)) (.slice none 0 0)
    have r0 := (cell_cells (i := 0) hW0).trans (show _ = some (.slice none 0 0) by simp)
    have r1 := (cell_cells (i := 1) hW0).trans (show _ = some (.slice none 0 0) by simp)
    refine bodyPost_ret (v := .agg #[.slice none 0 0, .slice none 0 0]) (by simp [results, Tryz.results124, go_sem, r0, r1]) rfl ⟨_, _, rfl, by rw [HTT.out]; exact rda_nil _ _, ((hB1).setCell (by simp) _).setCell (by simp) _⟩
  have HTT0 : Hid (tgetT t p = getK t p) := by unfold Hid tgetT; rw [hr]; rfl
  clear hr k0 k1 z0 z1
  go_wp2_with fail
  go_loopw [14] (fun i wr => ∃ (k : Nat) (u : Tr) (Ae : Option Addr) (ne : Nat) (Ak : Option Addr) (nk : Nat), k ≤ p.length ∧ i = .int .i64 k ∧ Hid (u.rd w w.heap.size (.slice Ae u.es.length ne) (.slice Ak u.ks.length nk)) ∧ u.sz ≤ 900000 ∧ Hid (getK u (p.drop k) = getK t p) ∧ Hid (wr.heap[w.heap.size]? = some (.cells #[.slice Ae u.es.length ne, .slice Ak u.ks.length nk] 25 (0, 0))) ∧ Hid (wr.heap[w.heap.size + 1]? = some (.cells #[.slice none 0 0, .slice none 0 0] 25 (0, 0))) ∧ w.heap.size + 2 ≤ wr.heap.size ∧ Below w.heap.size w wr) (fun i _ => p.length - (intOf i).toNat)
  case atStart => exact ⟨0, t, A3, n3, A4, n4, Nat.zero_le _, rfl, HD, hN, rfl, HG2, HG4, hs1, hB1⟩
  case round =>
    clear HG2 HG4 hs1 hB1
    obtain ⟨k, u, Ae, ne, Ak, nk, hk, rfl, HRD, husz, HK, HG2, HG4, hsw, hB⟩ := hrel
    have c0 : wr.cell? ⟨w.heap.size, 0, none⟩ = some (.slice Ae u.es.length ne) := cell_cells (i := 0) HG2.out
    have c1 : wr.cell? ⟨w.heap.size, 1, none⟩ = some (.slice Ak u.ks.length nk) := cell_cells (i := 1) HG2.out
    by_cases hlt : k < p.length
    · obtain ⟨x, hx⟩ : ∃ x, p[k]? = some x := ⟨_, List.getElem?_eq_getElem hlt⟩
      obtain ⟨b, off, rfl, hbB, hc⟩ := p3 (by rintro rfl; simp at hlt)
      obtain ⟨cs, ⟨rfl, hok⟩, _, hu⟩ := hc k _ hx
      have e0 : wr.cell? ⟨b, off + k, none⟩ = some (.string x) := (hB.cell (p := ⟨b, off + k, none⟩) hbB).trans (by simpa using hu 0 _ rfl)
      have HX : Hid (getK (kidT u x) (p.drop (k + 1)) = getK t p) := by unfold Hid; rw [← HK.out, drop_cons hx]; rfl
      have hne : w.heap.size ≠ wr.heap.size := by omega
      have hlt0 : w.heap.size < wr.heap.size := by omega
      clear hu hc p3 hx HK
      go_wp2_with fail
      refine (idxKid_any (fun y => decide (y = x)) _ _ u.ks _ _ (kids_slp (rd_below (hB.alloc (by omega) (.cells #[.string x] 9)) (hB.alloc (by omega) (.cells #[.string x] 9)).size u _ _ HRD.out)) (getTest (key := x) (B := wr.heap.size) (by simp) (by simp))).mono ?_
      rintro e w1 ⟨rfl, hb1⟩
      have hs1 := hb1.size
      simp only [World.size_alloc] at hs1
      have hB1 : Below w.heap.size w w1 := (hB.alloc (by omega) _).trans (hb1.mono (by rw [World.size_alloc]; omega))
      have HG2' := hid ((hb1.block w.heap.size (by rw [World.size_alloc]; omega)).trans ((heap_old (by omega)).trans HG2.out))
      have HG4' := hid ((hb1.block (w.heap.size + 1) (by rw [World.size_alloc]; omega)).trans ((heap_old (by omega)).trans HG4.out))
      clear hb1 c0 c1 e0 HG2 HG4
      have c0 : w1.cell? ⟨w.heap.size, 0, none⟩ = some (.slice Ae u.es.length ne) := cell_cells (i := 0) HG2'.out
      have c1 : w1.cell? ⟨w.heap.size, 1, none⟩ = some (.slice Ak u.ks.length nk) := cell_cells (i := 1) HG2'.out
      have k0 : w1.cell? ⟨w.heap.size + 1, 0, none⟩ = some (.slice none 0 0) := cell_cells (i := 0) HG4'.out
      have k1 : w1.cell? ⟨w.heap.size + 1, 1, none⟩ = some (.slice none 0 0) := cell_cells (i := 1) HG4'.out
      have y0 := cells_frz (i := 0) HG2'.out
      have y1 := cells_frz (i := 1) HG2'.out
      have z0 := cells_frz (i := 0) HG4'.out
      have z1 := cells_frz (i := 1) HG4'.out
      rcases kid_idx u x with ⟨hi, hkn⟩ | ⟨j, v, hi, hj, hkv⟩
      · have HTT : Hid (tgetT t p = .mk [] []) := by unfold Hid; rw [HTT0.out, ← HX.out, hkn, getK_nil]
        have HG4 := HG4'
        rw [hi]
        clear hi hkn y0 y1
        go_wp2_with fail
        have hW0 := cells_set (i := 1) (cells_set (i := 0) HG4.out (.slice none 0 0)) (.slice none 0 0)
        have r0 := (cell_cells (i := 0) hW0).trans (show _ = some (.slice none 0 0) by simp)
        have r1 := (cell_cells (i := 1) hW0).trans (show _ = some (.slice none 0 0) by simp)
        refine bodyPost_ret (v := .agg #[.slice none 0 0, .slice none 0 0]) (by simp [results, Tryz.results124, go_sem, r0, r1]) rfl ⟨_, _, rfl, by rw [HTT.out]; exact rda_nil _ _, ((hB1).setCell (by simp) _).setCell (by simp) _⟩
      · rw [hi]
        have hjl : j < u.ks.length := (List.getElem?_eq_some_iff.1 hj).1
        have hmem := List.mem_of_getElem? hj
        have hvs : v.sz ≤ 900000 := by
          have h1 := kidT_sz u x
          rw [hkv] at h1; omega
        have hkl : u.ks.length ≤ 140737488355328 := by
          have h1 := HRD.out; obtain ⟨es, ks⟩ := u; obtain ⟨_, _, _, _, h2, _⟩ := (rd_iff.1 h1).2; exact h2
        obtain ⟨b', off', rfl, hbB', vAe, vne, vAk, vnk, HRV, q1, q2⟩ : ∃ b' off', Ak = some ⟨b', off', none⟩ ∧ b' < w.heap.size ∧ ∃ vAe vne vAk vnk, Hid (v.rd w w.heap.size (.slice vAe v.es.length vne) (.slice vAk v.ks.length vnk)) ∧ w1.cell? ⟨b', off' + j * 3 + 1, none⟩ = some (.slice vAe v.es.length vne) ∧ w1.cell? ⟨b', off' + j * 3 + 2, none⟩ = some (.slice vAk v.ks.length vnk) := by
          have h1 := HRD.out
          obtain ⟨es, ks⟩ := u
          obtain ⟨Ak', ck', he, _, _, h3⟩ := (rd_iff.1 h1).2
          cases he
          obtain ⟨b', off', rfl, hbB', hc'⟩ := h3 (by rintro rfl; simp [Tr.ks] at hjl)
          obtain ⟨cs, ⟨ve', vk', rfl, _, hrd'⟩, _, hu'⟩ := hc' j _ hj
          obtain ⟨vAe, vne, vAk, vnk, rfl, rfl⟩ := rd_shape hrd'
          exact ⟨b', off', rfl, hbB', vAe, vne, vAk, vnk, hrd', (hB1.cell (p := ⟨b', off' + j * 3 + 1, none⟩) hbB').trans (hu' 1 _ rfl), (hB1.cell (p := ⟨b', off' + j * 3 + 2, none⟩) hbB').trans (hu' 2 _ rfl)⟩
        have HKV := hid hkv
        clear hi hj hmem hkv k0 k1 z0 z1
        go_wp2_with fail
        go_roundw
        case rel => exact ⟨k + 1, v, vAe, vne, vAk, vnk, by omega, by go_num, HRV, hvs, by unfold Hid; rw [← HX.out, HKV.out], hid (by simpa using cells_set (i := 1) (cells_set (i := 0) HG2'.out (.slice vAe v.es.length vne)) (.slice vAk v.ks.length vnk)), hid ((Below.heap_setCell _ _ _ _ (by simp)).trans ((Below.heap_setCell _ _ _ _ (by simp)).trans HG4'.out)), by simp; omega, (hB1.setCell (by simp) _).setCell (by simp) _⟩
        case measure => simp [intOf]; omega
    · obtain rfl : k = p.length := by omega
      have HU : Hid (tgetT t p = u) := by
        have := HK.out
        rw [List.drop_of_length_le (Nat.le_refl _)] at this
        unfold Hid; rw [HTT0.out, ← this]; rfl
      clear p3 HK
      go_wp2_with fail
      refine (tclone_any u wr _ _ (rd_below hB hB.size _ _ _ HRD.out) husz).mono ?_
      rintro e w2 ⟨ve2, vk2, rfl, hrd, hb2⟩
      obtain ⟨Av, nv, Aw, nw, rfl, rfl⟩ := rda_shape hrd
      have hs2 := hb2.size
      have hB2 : Below w.heap.size w w2 := hB.trans (hb2.mono (by omega))
      have HG4' := hid ((hb2.block (w.heap.size + 1) (by omega)).trans HG4.out)
      have HRU := hid hrd
      clear hb2 c0 c1 HG2 HG4 hrd
      have k0 : w2.cell? ⟨w.heap.size + 1, 0, none⟩ = some (.slice none 0 0) := cell_cells (i := 0) HG4'.out
      have k1 : w2.cell? ⟨w.heap.size + 1, 1, none⟩ = some (.slice none 0 0) := cell_cells (i := 1) HG4'.out
      have z0 := cells_frz (i := 0) HG4'.out
      have z1 := cells_frz (i := 1) HG4'.out
      go_wp2_with fail
      obtain ⟨r0, r1, hrW, hsW⟩ := box_tree HG4'.out HRU.out (fun b hb => by have := hb.1; omega)
      refine bodyPost_ret (v := .agg #[.slice Av u.es.length nv, .slice Aw u.ks.length nw]) (by simp [results, Tryz.results124, go_sem, r0, r1]) rfl ⟨_, _, rfl, ?_, (hB2.setCell (by simp) _).setCell (by simp) _⟩
      rw [HU.out]
      exact rda_up (fun _ _ => rfl) (fun b hb => ⟨by have := hb.1; omega, by rw [hsW]; exact hb.2⟩) _ _ _ hrW
end Go.Proofs.YtdcmjmcipgadlaaGreat

namespace Go.Proofs.YtdcmjmcipgadlaaGreat
open Go.RowKit
set_option maxRecDepth 100000

def elP (x : Kd) : Bool := decide (0 < x.2.es.length)
def elL (ks : List Kd) : List ByteArray := (ks.filter elP).map (·.1)
theorem elL_take {ks : List Kd} {k : Nat} {x : Kd} (h : ks[k]? = some x) : elL (ks.take (k + 1)) = elL (ks.take k) ++ (if elP x then [x.1] else []) := by
  unfold elL
  rw [List.take_add_one, h, List.filter_append, List.map_append]
  cases hp : elP x <;> simp [hp]
theorem elL_len (ks : List Kd) : (elL ks).length ≤ ks.length := by unfold elL; rw [List.length_map]; exact List.length_filter_le _ _
/-- What set.Elems tells. -/
def elemsOf (t : Tr) : List ByteArray := if t.right 5 then elL t.ks else []
set_option maxHeartbeats 4000000 in
theorem selems_any (t : Tr) (w : World) (ve vk : Value) (h : t.rd w w.heap.size ve vk) (hN : t.ks.length ≤ 900000) :
    Calls Tryz.prog 36 #[.agg #[ve, vk]] w (RetO w 9 1 (fun _ => StE) (elemsOf t)) := by
  have HC : Hid (∀ w', Below w.heap.size w w' → t.rd w' w'.heap.size ve vk) := fun w' hb => rd_below hb hb.size _ _ _ h
  have HK0 : Hid (elemsOf t = if t.right 5 then elL t.ks else []) := rfl
  obtain ⟨es, ks⟩ := t
  rw [rd_iff] at h
  obtain ⟨⟨A0, n0, rfl, d1, d2, d3⟩, ⟨A, m, rfl, c1, c2, c3⟩⟩ := h
  unfold Big at c2 d2
  simp only [Tr.ks] at hN HK0 ⊢
  have hb0 : Below w.heap.size w (w.alloc (.cells #[.slice A0 es.length n0, .slice A ks.length m] 25)) := (Below.refl _ w).alloc (Nat.le_refl _) _
  go_enter Tryz.func36, Tryz.ntmps36
  go_wp2_with fail
  refine (tRight_any _ _ _ _ (HC.out _ hb0)).mono ?_
  rintro e w1 ⟨rfl, hb1⟩
  have hs1 := hb1.size
  simp only [World.size_alloc] at hs1
  have hB1 : Below w.heap.size w w1 := hb0.trans (hb1.mono (by simp))
  have b1 : w1.cell? ⟨w.heap.size, 1, none⟩ = some (.slice A ks.length m) := by rw [hb1.cell (p := ⟨w.heap.size, 1, none⟩) (by simp)]; simp
  cases hr : (Tr.mk es ks).right 5
  · have HK : Hid (elemsOf (.mk es ks) = []) := by unfold Hid; rw [HK0.out, hr]; rfl
    clear hr
    go_wp2_with fail
    go_ret
    exact ⟨_, rfl, by rw [HK.out]; exact OwnP.nil, hB1⟩
  have HK : Hid (elemsOf (.mk es ks) = elL ks) := by unfold Hid; rw [HK0.out, hr]; rfl
  clear hr d3 d2 d1
  go_wp2_with fail
  go_loopw [3, 11] (fun v i wr => ∃ k : Nat, k ≤ ks.length ∧ i = .int .i64 k ∧ OwnP wr (w.heap.size + 1) 9 1 StE v (elL (ks.take k)) ∧ Below (w.heap.size + 1) w1 wr) (fun _ i _ => ks.length - (intOf i).toNat)
  case atStart => exact ⟨0, Nat.zero_le _, rfl, OwnP.nil, Below.refl _ _⟩
  case round =>
    obtain ⟨k, hk, rfl, hown, hb⟩ := hrel
    have hsz := hb.size
    have hB0 : Below w.heap.size w wr := hB1.trans (hb.mono (by omega))
    by_cases hlt : k < ks.length
    · obtain ⟨⟨key, t⟩, hx⟩ : ∃ x, ks[k]? = some x := ⟨_, List.getElem?_eq_getElem hlt⟩
      obtain ⟨b, off, rfl, hbB, hc⟩ := c3 (by rintro rfl; simp at hlt)
      obtain ⟨cs, ⟨ve', vk', rfl, hkb, hrd⟩, _, hu⟩ := hc k _ hx
      have hte : t.es.length ≤ 140737488355328 := by have := fit_rd _ _ _ hrd; obtain ⟨es', ks'⟩ := t; exact this.1
      obtain ⟨A5, n5, A6, n6, rfl, rfl⟩ := rd_shape hrd
      have e0 : wr.cell? ⟨b, off + k * 3, none⟩ = some (.string key) := (hB0.cell hbB).trans (hu 0 _ rfl)
      have e1 : wr.cell? ⟨b, off + k * 3 + 1, none⟩ = some (.slice A5 t.es.length n5) := (hB0.cell hbB).trans (hu 1 _ rfl)
      have e2 : wr.cell? ⟨b, off + k * 3 + 2, none⟩ = some (.slice A6 t.ks.length n6) := (hB0.cell hbB).trans (hu 2 _ rfl)
      have HT : Hid (elL (ks.take (k + 1)) = elL (ks.take k) ++ (if elP (key, t) then [key] else [])) := elL_take hx
      have HKY : Hid (StE key [.string key]) := ⟨rfl, hkb⟩
      have hfi : decide ((0 : Int) < (t.es.length : Int)) = decide (0 < t.es.length) := by simp
      clear hu hc c3 hx hrd hb0 hb1 b1
      cases he : decide (0 < t.es.length)
      · have HX : Hid (elL (ks.take (k + 1)) = elL (ks.take k)) := by unfold Hid; rw [HT.out, show elP (key, t) = false from he]; simp
        rw [he] at hfi
        go_wp2_with fail
        go_roundw
        case rel => exact ⟨k + 1, by omega, by go_num, by rw [HX.out]; exact hown.alloc _, hb.alloc (by omega) _⟩
        case measure => simp [intOf]; omega
      · have HX : Hid (elL (ks.take (k + 1)) = elL (ks.take k) ++ [key]) := by unfold Hid; rw [HT.out, show elP (key, t) = true from he]; rfl
        have HL : Hid ((elL (ks.take k)).length + [key].length ≤ Few) := by have := elL_len (ks.take k); unfold Hid Few; simp at this ⊢; omega
        rw [he] at hfi
        go_wp2_with (at_builtin; go_loud ((with_reducible refine wpList_few rfl (.tmp 20) (.tmp 23) _ rfl eiStr (by decide) (by decide) (fun _ _ h => StE.one h) rfl ((hown.alloc _).alloc _) rfl (SlP.oneN (x := key) HKY.out rfl _ rfl) HL.out (by simp only [World.size_alloc]; omega) ?_); intro v1 w2 hown1 hb2 _; have hb3 := (((Below.refl (w.heap.size + 1) wr).alloc (by omega) _).alloc (by simp only [World.size_alloc]; omega) _).trans hb2))
        go_roundw
        case rel => exact ⟨k + 1, by omega, by go_num, by rw [HX.out]; exact hown1, hb.trans hb3⟩
        case measure => simp [intOf]; omega
    · obtain rfl : k = ks.length := by omega
      rw [List.take_of_length_le (Nat.le_refl _)] at hown
      go_wp2_with fail
      go_ret
      exact ⟨_, rfl, by rw [HK.out]; exact hown.mono (by omega), hB0⟩

set_option maxHeartbeats 4000000 in
theorem r10elems_any (t : Tr) (w : World) (ve vk : Value) (h : t.rd w w.heap.size ve vk) (hN : t.ks.length ≤ 900000) :
    Calls Tryz.prog 35 #[.agg #[ve, vk]] w (RetO w 9 1 (fun _ => StE) (elL t.ks)) := by
  obtain ⟨es, ks⟩ := t
  rw [rd_iff] at h
  obtain ⟨⟨A0, n0, rfl, d1, d2, d3⟩, ⟨A, m, rfl, c1, c2, c3⟩⟩ := h
  unfold Big at c2 d2
  simp only [Tr.ks] at hN ⊢
  have hb0 : Below w.heap.size w (w.alloc (.cells #[.slice A0 es.length n0, .slice A ks.length m] 25)) := (Below.refl _ w).alloc (Nat.le_refl _) _
  go_enter Tryz.func35, Tryz.ntmps35
  go_wp2_with fail
  go_loopw [3, 8] (fun v i wr => ∃ k : Nat, k ≤ ks.length ∧ i = .int .i64 k ∧ OwnP wr (w.heap.size + 1) 9 1 StE v (elL (ks.take k)) ∧ Below (w.heap.size + 1) (w.alloc (.cells #[.slice A0 es.length n0, .slice A ks.length m] 25)) wr) (fun _ i _ => ks.length - (intOf i).toNat)
  case atStart => exact ⟨0, Nat.zero_le _, rfl, OwnP.nil, Below.refl _ _⟩
  case round =>
    obtain ⟨k, hk, rfl, hown, hb⟩ := hrel
    have hsz := hb.size
    simp only [World.size_alloc] at hsz
    have hB0 : Below w.heap.size w wr := hb0.trans (hb.mono (by omega))
    by_cases hlt : k < ks.length
    · obtain ⟨⟨key, t⟩, hx⟩ : ∃ x, ks[k]? = some x := ⟨_, List.getElem?_eq_getElem hlt⟩
      obtain ⟨b, off, rfl, hbB, hc⟩ := c3 (by rintro rfl; simp at hlt)
      obtain ⟨cs, ⟨ve', vk', rfl, hkb, hrd⟩, _, hu⟩ := hc k _ hx
      have hte : t.es.length ≤ 140737488355328 := by have := fit_rd _ _ _ hrd; obtain ⟨es', ks'⟩ := t; exact this.1
      obtain ⟨A5, n5, A6, n6, rfl, rfl⟩ := rd_shape hrd
      have e0 : wr.cell? ⟨b, off + k * 3, none⟩ = some (.string key) := (hB0.cell hbB).trans (hu 0 _ rfl)
      have e1 : wr.cell? ⟨b, off + k * 3 + 1, none⟩ = some (.slice A5 t.es.length n5) := (hB0.cell hbB).trans (hu 1 _ rfl)
      have z1 : wr.cell? ⟨w.heap.size, 1, none⟩ = some (.slice (some ⟨b, off, none⟩) ks.length m) := by rw [hb.cell (p := ⟨w.heap.size, 1, none⟩) (by simp)]; simp
      have HT : Hid (elL (ks.take (k + 1)) = elL (ks.take k) ++ (if elP (key, t) then [key] else [])) := elL_take hx
      have HK : Hid (StE key [.string key]) := ⟨rfl, hkb⟩
      have hfi : decide ((0 : Int) < (t.es.length : Int)) = decide (0 < t.es.length) := by simp
      clear hu hc c3 hx hrd d3 hb0
      cases he : decide (0 < t.es.length)
      · have HX : Hid (elL (ks.take (k + 1)) = elL (ks.take k)) := by unfold Hid; rw [HT.out, show elP (key, t) = false from he]; simp
        rw [he] at hfi
        go_wp2_with fail
        go_roundw
        case rel => exact ⟨k + 1, by omega, by go_num, by rw [HX.out]; exact hown, hb⟩
        case measure => simp [intOf]; omega
      · have HX : Hid (elL (ks.take (k + 1)) = elL (ks.take k) ++ [key]) := by unfold Hid; rw [HT.out, show elP (key, t) = true from he]; rfl
        have HL : Hid ((elL (ks.take k)).length + [key].length ≤ Few) := by have := elL_len (ks.take k); unfold Hid Few; simp at this ⊢; omega
        rw [he] at hfi
        go_wp2_with (at_builtin; go_loud ((with_reducible refine wpList_few rfl (.tmp 20) (.tmp 27) _ rfl eiStr (by decide) (by decide) (fun _ _ h => StE.one h) rfl (hown.alloc _) rfl (SlP.one (x := key) HK.out rfl _ rfl) HL.out (by rw [World.size_alloc]; omega) ?_); intro v1 w1 hown1 hb1 _; have hb2 := ((Below.refl (w.heap.size + 1) wr).alloc (by omega) _).trans hb1))
        go_roundw
        case rel => exact ⟨k + 1, by omega, by go_num, by rw [HX.out]; exact hown1, hb.trans hb2⟩
        case measure => simp [intOf]; omega
    · obtain rfl : k = ks.length := by omega
      rw [List.take_of_length_le (Nat.le_refl _)] at hown
      go_wp2_with fail
      go_ret
      exact ⟨_, rfl, hown.mono (by omega), hB0⟩

/-- What tributaryref10.Less tells. -/
def lessL (l : List ByteArray) (s : ByteArray) : List ByteArray := l.filter fun x => !decide (x = s)
theorem lessL_take {l : List ByteArray} {k : Nat} {x : ByteArray} (h : l[k]? = some x) (s : ByteArray) : lessL (l.take (k + 1)) s = lessL (l.take k) s ++ (if x = s then [] else [x]) := by
  unfold lessL
  rw [List.take_add_one, h, List.filter_append]
  by_cases hp : x = s <;> simp [hp]
theorem lessL_len (l : List ByteArray) (s : ByteArray) : (lessL l s).length ≤ l.length := List.length_filter_le _ _
theorem lessL_lt (l : List ByteArray) (s : ByteArray) : decide ((lessL l s).length < l.length) = l.any fun x => decide (s = x) := by
  induction l with
  | nil => rfl
  | cons y l ih =>
    have h := lessL_len l s
    by_cases e : y = s
    · have : lessL (y :: l) s = lessL l s := by simp [lessL, e]
      rw [this, List.any_cons]; simp [e]; omega
    · have h2 : lessL (y :: l) s = y :: lessL l s := by simp [lessL, e]
      rw [h2, List.any_cons, ← ih]
      have e' : ¬ s = y := fun h => e h.symm
      simp [e']
set_option maxHeartbeats 4000000 in
theorem r10less_any (l : List ByteArray) (s : ByteArray) (v : Value) (w : World) (h : SlP w w.heap.size 1 StE v l) (hN : l.length ≤ 900000) :
    Calls Tryz.prog 39 #[v, .string s] w (RetO w 9 1 (fun _ => StE) (lessL l s)) := by
  obtain ⟨A, n, rfl, b1, b2, b3⟩ := h
  unfold Big at b2
  go_enter Tryz.func39, Tryz.ntmps39
  go_wp2_with fail
  go_loopw [5, 9] (fun v i wr => ∃ k : Nat, k ≤ l.length ∧ i = .int .i64 k ∧ OwnP wr w.heap.size 9 1 StE v (lessL (l.take k) s) ∧ Below w.heap.size w wr) (fun _ i _ => l.length - (intOf i).toNat)
  case atStart => exact ⟨0, Nat.zero_le _, rfl, OwnP.nil, Below.refl _ _⟩
  case round =>
    obtain ⟨k, hk, rfl, hown, hb⟩ := hrel
    have hsz := hb.size
    by_cases hlt : k < l.length
    · obtain ⟨x, hx⟩ : ∃ x, l[k]? = some x := ⟨_, List.getElem?_eq_getElem hlt⟩
      obtain ⟨b, off, rfl, hbB, hc⟩ := b3 (by rintro rfl; simp at hlt)
      obtain ⟨cs, ⟨rfl, hok⟩, _, hu⟩ := hc k _ hx
      have e0 : wr.cell? ⟨b, off + k, none⟩ = some (.string x) := (hb.cell hbB).trans (by simpa using hu 0 _ rfl)
      have HT := hid (lessL_take hx s)
      have HK : Hid (StE x [.string x]) := ⟨rfl, hok⟩
      clear hu hc b3 hx
      by_cases he : x = s
      · have HX : Hid (lessL (l.take (k + 1)) s = lessL (l.take k) s) := by unfold Hid; rw [HT.out, if_pos he]; simp
        have hq : (x.toList == s.toList) = true := by rw [he]; simp
        clear he
        go_wp2_with fail
        go_roundw
        case rel => exact ⟨k + 1, by omega, by go_num, by rw [HX.out]; exact hown, hb⟩
        case measure => simp [intOf]; omega
      · have HX : Hid (lessL (l.take (k + 1)) s = lessL (l.take k) s ++ [x]) := by unfold Hid; rw [HT.out, if_neg he]
        have HL : Hid ((lessL (l.take k) s).length + [x].length ≤ Few) := by have := lessL_len (l.take k) s; unfold Hid Few; simp at this ⊢; omega
        have hq : (x.toList == s.toList) = false := by simp [bytes_inj]; exact he
        clear he
        go_wp2_with (at_builtin; go_loud ((with_reducible refine wpList_few rfl (.tmp 18) (.tmp 23) _ rfl eiStr (by decide) (by decide) (fun _ _ h => StE.one h) rfl (hown.alloc _) rfl (SlP.one (x := x) HK.out rfl _ rfl) HL.out (by rw [World.size_alloc]; omega) ?_); intro v1 w1 hown1 hb1 _; have hb2 := ((Below.refl w.heap.size wr).alloc (by omega) _).trans hb1))
        go_roundw
        case rel => exact ⟨k + 1, by omega, by go_num, by rw [HX.out]; exact hown1, hb.trans hb2⟩
        case measure => simp [intOf]; omega
    · obtain rfl : k = l.length := by omega
      rw [List.take_of_length_le (Nat.le_refl _)] at hown
      go_wp2_with fail
      go_ret
      exact ⟨_, rfl, hown, hb⟩

set_option maxHeartbeats 1000000 in
theorem indexStr_any (l : List ByteArray) (s : ByteArray) (v : Value) (w : World) (B : Nat) (h : SlP w B 1 StE v l) :
    Calls Tryz.prog 125 #[v, .string s] w fun e w' => e = .returned (.int .i64 (idxI (fun x => decide (s = x)) l)) ∧ w = w' := by
  obtain ⟨A, n, rfl, b1, b2, b3⟩ := h
  unfold Big at b2
  go_enter Tryz.func125, Tryz.ntmps125
  go_wp2_with fail
  go_loop [8] (fun i => ∃ k : Nat, k ≤ l.length ∧ i = .int .i64 k ∧ Hid (∀ (j : Nat) y, j < k → l[j]? = some y → (fun x => decide (s = x)) y = false)) (fun i => l.length - (intOf i).toNat)
  case atStart => exact ⟨0, Nat.zero_le _, rfl, fun j y hj => absurd hj (Nat.not_lt_zero _)⟩
  case round =>
    obtain ⟨k, hk, rfl, hrel⟩ := hrel
    by_cases hlt : k < l.length
    · obtain ⟨x, hx⟩ : ∃ x, l[k]? = some x := ⟨_, List.getElem?_eq_getElem hlt⟩
      obtain ⟨b, off, rfl, hbB, hc⟩ := b3 (by rintro rfl; simp at hlt)
      obtain ⟨cs, ⟨rfl, hok⟩, _, hu⟩ := hc k _ hx
      have e0 : w.cell? ⟨b, off + k, none⟩ = some (.string x) := by simpa using hu 0 _ rfl
      have HX := hid hx
      clear hu hc b3 hx
      by_cases he : s = x
      · have HQ : Hid ((fun x => decide (s = x)) x = true) := by unfold Hid; simpa using he
        have hq : (s.toList == x.toList) = true := by rw [he]; simp
        clear he
        go_wp2_with fail
        go_ret
        exact ⟨ret_int (idxI_hit hrel.out HX.out HQ.out).symm, rfl⟩
      · have HQ : Hid ((fun x => decide (s = x)) x = false) := by unfold Hid; simpa using he
        have hq : (s.toList == x.toList) = false := by simp [bytes_inj]; exact he
        clear he
        go_wp2_with fail
        go_round
        case rel =>
          refine ⟨k + 1, by omega, by go_num, fun j y hj hy => ?_⟩
          by_cases hjk : j = k
          · subst hjk; have h2 := HX.out; rw [hy] at h2; cases h2; exact HQ.out
          · exact hrel.out j y (by omega) hy
        case measure => simp [intOf]; omega
    · obtain rfl : k = l.length := by omega
      go_wp2_with fail
      go_ret
      exact ⟨ret_int (idxI_miss hrel.out).symm, rfl⟩
theorem containsStr_any (l : List ByteArray) (s : ByteArray) (v : Value) (w : World) (h : SlP w w.heap.size 1 StE v l) :
    Calls Tryz.prog 91 #[v, .string s] w fun e w' => e = .returned (.bool (l.any fun x => decide (s = x))) ∧ w = w' := by
  have hbd := idxI_bd (fun x => decide (s = x)) l
  have HA := hid (idxI_any (fun x => decide (s = x)) l)
  obtain ⟨A, n, rfl, b1, b2, b3⟩ := h
  unfold Big at b2
  go_enter Tryz.func91, Tryz.ntmps91
  go_wp2_with fail
  refine (indexStr_any l s _ w w.heap.size ⟨A, n, rfl, b1, by unfold Big; omega, b3⟩).mono ?_
  rintro e w1 ⟨rfl, rfl⟩
  go_wp2_with fail
  go_ret
  exact ⟨ret_bool HA.out, rfl⟩
/-- What set.Has tells. -/
def hasE (t : Tr) (s : ByteArray) : Bool := (elemsOf t).any fun x => decide (s = x)
theorem elemsOf_len (t : Tr) : (elemsOf t).length ≤ t.ks.length := by
  unfold elemsOf
  split
  · exact elL_len _
  · simp
theorem shasE_any (t : Tr) (s : ByteArray) (w : World) (ve vk : Value) (h : t.rd w w.heap.size ve vk) (hN : t.ks.length ≤ 900000) :
    Calls Tryz.prog 38 #[.agg #[ve, vk], .string s] w fun e w' => e = .returned (.bool (hasE t s)) ∧ Below w.heap.size w w' := by
  have HC : Hid (∀ w', Below w.heap.size w w' → t.rd w' w'.heap.size ve vk) := fun w' hb => rd_below hb hb.size _ _ _ h
  have hel := elemsOf_len t
  obtain ⟨A3, n3, A4, n4, rfl, rfl⟩ := rd_shape h
  clear h
  go_enter Tryz.func38, Tryz.ntmps38
  go_wp2_with fail
  refine (selems_any t _ _ _ (HC.out _ ((Below.refl _ w).alloc (Nat.le_refl _) _)) hN).mono ?_
  rintro e w1 ⟨v1, rfl, ho1, hb1⟩
  obtain ⟨A5, n5, rfl⟩ := ho1.shape
  have HS := hid (ho1.sl (by unfold Big; omega))
  clear ho1
  go_wp2_with fail
  refine (containsStr_any (elemsOf t) s _ w1 HS.out).mono ?_
  rintro e w2 ⟨rfl, rfl⟩
  go_wp2_with fail
  go_ret
  exact ⟨ret_bool rfl, ((Below.refl _ w).alloc (Nat.le_refl _) _).trans (hb1.mono (by simp))⟩
end Go.Proofs.YtdcmjmcipgadlaaGreat

namespace Go.Proofs
open Go.Shelf
def Tryz.sortRun_ren : Go.Shelf.Ren := ⟨fun | 6 => 141 | 15 => 151 | 14 => 164 | 28 => 176 | 29 => 177 | 20 => 186 | 21 => 187 | 22 => 188 | 23 => 189 | 24 => 190 | 25 => 191 | 26 => 192 | 27 => 193 | 46 => 201 | 47 => 195 | 48 => 196 | 49 => 202 | 50 => 203 | 57 => 205 | n => n, fun | 22 => 118 | 24 => 144 | 25 => 147 | 3 => 3 | 39 => 155 | 0 => 0 | 53 => 180 | 55 => 182 | 4 => 4 | 46 => 172 | 45 => 171 | 50 => 177 | 5 => 5 | 9 => 9 | 66 => 197 | 70 => 201 | 76 => 207 | 77 => 208 | n => n, fun | n => n⟩
theorem Tryz.sortRun : Go.Proofs.SlLaysF0.n6 Tryz.prog Tryz.sortRun_ren := {
  mixed := by kernel_rfl
  f6 := ⟨Tryz.f141.name, by decide, Tryz.func141.trans (congrArg some (by kernel_rfl))⟩
  f14 := ⟨Tryz.f164.name, by decide, Tryz.func164.trans (congrArg some (by kernel_rfl))⟩
  f15 := Tryz.func151.trans (congrArg some (by kernel_rfl))
  f20 := ⟨Tryz.f186.name, by decide, Tryz.func186.trans (congrArg some (by kernel_rfl))⟩
  f21 := ⟨Tryz.f187.name, by decide, Tryz.func187.trans (congrArg some (by kernel_rfl))⟩
  f22 := ⟨Tryz.f188.name, by decide, Tryz.func188.trans (congrArg some (by kernel_rfl))⟩
  f23 := ⟨Tryz.f189.name, by decide, Tryz.func189.trans (congrArg some (by kernel_rfl))⟩
  f24 := ⟨Tryz.f190.name, by decide, Tryz.func190.trans (congrArg some (by kernel_rfl))⟩
  f25 := ⟨Tryz.f191.name, by decide, Tryz.func191.trans (congrArg some (by kernel_rfl))⟩
  f26 := ⟨Tryz.f192.name, by decide, Tryz.func192.trans (congrArg some (by kernel_rfl))⟩
  f27 := ⟨Tryz.f193.name, by decide, Tryz.func193.trans (congrArg some (by kernel_rfl))⟩
  f28 := Tryz.func176.trans (congrArg some (by kernel_rfl))
  f29 := Tryz.func177.trans (congrArg some (by kernel_rfl))
  f46 := ⟨Tryz.f201.name, by decide, Tryz.func201.trans (congrArg some (by kernel_rfl))⟩
  f47 := Tryz.func195.trans (congrArg some (by kernel_rfl))
  f48 := Tryz.func196.trans (congrArg some (by kernel_rfl))
  f49 := ⟨Tryz.f202.name, by decide, Tryz.func202.trans (congrArg some (by kernel_rfl))⟩
  f50 := ⟨Tryz.f203.name, by decide, Tryz.func203.trans (congrArg some (by kernel_rfl))⟩
  f57 := ⟨Tryz.f205.name, by decide, Tryz.func205.trans (congrArg some (by kernel_rfl))⟩
  t0 := Tryz.underlying0
  a0 := Tryz.isAgg0
  z0 := Tryz.sizeOf0
  v0 := Tryz.zeroValue0
  t3 := Tryz.underlying3
  a3 := Tryz.isAgg3
  z3 := Tryz.sizeOf3
  v3 := Tryz.zeroValue3
  t4 := Tryz.underlying4
  a4 := Tryz.isAgg4
  z4 := Tryz.sizeOf4
  v4 := Tryz.zeroValue4
  t5 := Tryz.underlying5
  a5 := Tryz.isAgg5
  z5 := Tryz.sizeOf5
  v5 := Tryz.zeroValue5
  t9 := Tryz.underlying9
  a9 := Tryz.isAgg9
  z9 := Tryz.sizeOf9
  v9 := Tryz.zeroValue9
  t22 := Tryz.underlying118
  a22 := Tryz.isAgg118
  z22 := Tryz.sizeOf118
  v22 := Tryz.zeroValue118
  t25 := Tryz.underlying147
  a25 := Tryz.isAgg147
  z25 := Tryz.sizeOf147
  v25 := Tryz.zeroValue147
  t39 := Tryz.underlying155
  a39 := Tryz.isAgg155
  z39 := Tryz.sizeOf155
  v39 := Tryz.zeroValue155
  t45 := Tryz.underlying171
  a45 := Tryz.isAgg171
  z45 := Tryz.sizeOf171
  v45 := Tryz.zeroValue171
  t46 := Tryz.underlying172
  a46 := Tryz.isAgg172
  z46 := Tryz.sizeOf172
  v46 := Tryz.zeroValue172
  t50 := Tryz.underlying177
  a50 := Tryz.isAgg177
  z50 := Tryz.sizeOf177
  v50 := Tryz.zeroValue177
  t53 := Tryz.underlying180
  a53 := Tryz.isAgg180
  z53 := Tryz.sizeOf180
  v53 := Tryz.zeroValue180
  t55 := Tryz.underlying182
  a55 := Tryz.isAgg182
  z55 := Tryz.sizeOf182
  v55 := Tryz.zeroValue182
  t66 := Tryz.underlying197
  a66 := Tryz.isAgg197
  z66 := Tryz.sizeOf197
  v66 := Tryz.zeroValue197
  t70 := Tryz.underlying201
  a70 := Tryz.isAgg201
  z70 := Tryz.sizeOf201
  v70 := Tryz.zeroValue201
  t76 := Tryz.underlying207
  a76 := Tryz.isAgg207
  z76 := Tryz.sizeOf207
  v76 := Tryz.zeroValue207
  t77 := Tryz.underlying208
  a77 := Tryz.isAgg208
  z77 := Tryz.sizeOf208
  v77 := Tryz.zeroValue208 }
end Go.Proofs

namespace Go.Proofs.YtdcmjmcipgadlaaGreat
open Go.RowKit Go.Sort
set_option maxRecDepth 100000

theorem heap_rowK {w : World} {g n : Nat} {os : Array Obj} {cur : Array Value} {e : TypeId} {fr : Nat × Nat} (F : Array Value) (hb : w.heap[g]? = some (.cells cur e fr)) :
    (grow (putRow id (Sort.ahead w n) g 0 F) os).heap[g]? = some (.cells (putCells id 0 F cur) e fr) := by
  have hg : g < w.heap.size := (Array.getElem?_eq_some_iff.1 hb).1
  rw [heap_grow_old _ _ (by simpa using hg)]
  simp [putRow, mapBlock, Sort.ahead, Array.getElem?_modify, hb, onCells]
theorem grownBy_rowK {w : World} {g n : Nat} {os : Array Obj} (F : Array Value) : w.grownBy (grow (putRow id (Sort.ahead w n) g 0 F) os) (some g) := by
  refine ⟨rfl, rfl, rfl, by simp, fun k hk hne => ?_⟩
  rw [heap_grow_old _ _ (by simpa using hk)]
  have : g ≠ k := fun e => hne (by rw [e])
  simp [putRow, mapBlock, Sort.ahead, Array.getElem?_modify, this]

def encR {α : Type} (en : α → Int × Int) (x : α) : List Value := [.int .i64 (en x).1, .int .i64 (en x).2]
theorem flatten_two {α : Type} [Inhabited α] (en : α → Int × Int) (l : List α) (j : Nat) (hj : j < l.length * 2) : (l.map (encR en)).flatten[j]? = some ((encR en l[j / 2]!)[j % 2]!) := by
  have hm : j % 2 < 2 := Nat.mod_lt _ (by omega)
  have hd : j = j / 2 * 2 + j % 2 := by omega
  have hf := flat_at (sz := 2) (l.map (encR en)) (fun cs h => by obtain ⟨x, _, rfl⟩ := List.mem_map.1 h; rfl) (j / 2) (j % 2) hm
  rw [← hd] at hf
  have hlt : j / 2 < l.length := by omega
  rw [hf, List.getElem?_map, List.getElem?_eq_getElem hlt]
  simp only [Option.map_some, Option.bind_some]
  rw [getElem!_pos l (j / 2) hlt]
  rcases (show j % 2 = 0 ∨ j % 2 = 1 by omega) with e | e <;> rw [e] <;> rfl

theorem sortRun_any {α : Type} [Inhabited α] (en : α → Int × Int) (cf : α → α → Int) (hO : SWO (ltOf cf)) (g : Nat) (eg : ∀ args w, (callFunc g args).run Tryz.prog w = .ok (.enter g args) w)
    (hc : ∀ (x y : α) (W : World), Calls Tryz.prog g #[.agg #[.int .i64 (en x).1, .int .i64 (en x).2], .agg #[.int .i64 (en y).1, .int .i64 (en y).2]] W fun e w' => e = .returned (.int .i64 (cf x y)) ∧ ∃ q os', w' = grow (W.drewN q) os')
    (ds : List α) (v : Value) (w : World) (base : Nat) (h : OwnP w base 144 2 RuE v (ds.map en)) (hl : ds.length ≤ 900000) (hbase : base ≤ w.heap.size) :
    Calls Tryz.prog 141 #[v, .func (.func g) #[] #[]] w fun e w' => e = .returned (.tuple #[]) ∧
      ∃ ts : List α, ts.Perm ds ∧ ts.Pairwise (fun a b => 0 ≤ cf b a) ∧ OwnP w' base 144 2 RuE v (ts.map en) ∧ Below base w w' := by
  obtain ⟨css, h1, h2, h3⟩ := h
  rcases h3 with ⟨rfl, hn⟩ | ⟨b, cap, cur, rfl, hb, hg, hnc, hm, hcs, ht⟩
  · obtain rfl : ds = [] := by simpa using hn
    refine (AnyF.slices_SortFunc_none Tryz.sortRun none 0 (.func (.func g) #[] #[]) w).mono ?_
    rintro e w' ⟨rfl, rfl⟩
    exact ⟨rfl, [], List.Perm.refl _, List.Pairwise.nil, OwnP.nil, Below.refl _ _⟩
  · have hlt : b < w.heap.size := (Array.getElem?_eq_some_iff.1 hg).1
    have hlen : (ds.map en).length = ds.length := List.length_map ..
    rw [hlen] at h2 hnc ht ⊢
    have hcss : css = ds.map (encR en) := by
      apply List.ext_getElem?
      intro j
      by_cases hj : j < ds.length
      · obtain ⟨cs, hcs, ⟨hcv, _⟩, _⟩ := h1.2 j (en ds[j]) (by rw [List.getElem?_map, List.getElem?_eq_getElem hj]; rfl)
        rw [hcs, List.getElem?_map, List.getElem?_eq_getElem hj, hcv]; rfl
      · rw [List.getElem?_eq_none (by rw [h1.1, hlen]; omega), List.getElem?_eq_none (by simp; omega)]
    have hok : ∀ x ∈ ds, I64 (en x).1 ∧ I64 (en x).2 := fun x hx => by
      obtain ⟨j, hj⟩ := List.getElem?_of_mem hx
      obtain ⟨cs, _, ⟨_, hr⟩, _⟩ := h1.2 j (en x) (by rw [List.getElem?_map, hj]; rfl)
      exact hr
    have hH : HoldsK (encR en) 2 w b 0 ds.toArray := by
      intro j hj
      have hj : j < ds.length * 2 := by simpa using hj
      refine ⟨?_, by simp [World.frozen?, hg]⟩
      rw [get_flatK _ _ _ _ (by simpa using hj), Nat.zero_add, show (w.cell? ⟨b, j, none⟩) = cur[j]? from by simp [World.cell?, hg]]
      have hf := flatten_two en ds j hj
      rw [← hcss, ← ht, List.getElem?_take_of_lt hj, Array.getElem?_toList] at hf
      rw [hf]; simp
    have hcon := AnyQ.slices_SortFunc Tryz.sortRun 2 Tryz.isAgg144 Tryz.sizeOf144 (encR en) (fun _ => rfl) (fun x u hu => by simp [encR] at hu; rcases hu with rfl | rfl <;> rfl) cf hO g #[] b 0 cap ds.toArray w eg
      (fun m os dk _ x y => hc x y _) hH hlt (by simp; omega)
    have hcon' : Calls Tryz.prog 141 #[.slice (some ⟨b, 0, none⟩) ds.length cap, .func (.func g) #[] #[]] w _ := hcon
    refine hcon'.mono ?_
    rintro e w' ⟨rfl, d', n, os, hp, hs, rfl⟩
    have hsz : d'.size = ds.length := by simpa using hp.1
    have hperm : d'.toList.Perm ds := by
      have := hp.2.2
      rw [show ds.toArray.extract 0 ds.toArray.size = ds.toArray by simp, show d'.extract 0 ds.toArray.size = d' by rw [show ds.toArray.size = d'.size by simp [hsz]]; simp] at this
      simpa using this
    refine ⟨rfl, d'.toList, hperm, ?_, ⟨d'.toList.map (encR en), ⟨by simp, fun j x hx => ?_⟩, ?_⟩, ?_⟩
    · rw [List.pairwise_iff_getElem]
      intro i j hi hj hij
      have hj' : j < d'.size := by simpa using hj
      have h4 := hs i j (Nat.zero_le _) hij (by simp; omega)
      rw [getElem!_pos d' i (by omega), getElem!_pos d' j hj'] at h4
      simp only [ltOf, decide_eq_false_iff_not, Int.not_lt] at h4
      simpa using h4
    · rw [List.getElem?_map] at hx
      obtain ⟨y, hy, rfl⟩ := Option.map_eq_some_iff.1 hx
      refine ⟨encR en y, by rw [List.getElem?_map, hy]; rfl, ⟨rfl, hok y (hperm.subset (List.mem_of_getElem? hy))⟩, rfl⟩
    · have hlm : (d'.toList.map en).length = ds.length := by simp [hsz]
      rw [hlm]
      refine ⟨by rw [flat_len (sz := 2) _ (fun cs h => by obtain ⟨x, _, rfl⟩ := List.mem_map.1 h; rfl)]; simp [hsz], .inr ⟨b, cap, _, rfl, hb, heap_rowK _ hg, hnc, hm, by simp [putCells, hcs], ?_⟩⟩
      apply List.ext_getElem?
      intro j
      by_cases hj : j < ds.length * 2
      · have hjc : j < cur.size := by rw [hcs]; have := Nat.mul_le_mul_right 2 hnc; omega
        rw [List.getElem?_take_of_lt hj, Array.getElem?_toList, flatten_two en d'.toList j (by simp [hsz]; omega)]
        simp only [putCells, Array.getElem?_mapIdx, Array.getElem?_eq_getElem hjc, Option.map_some]
        rw [if_pos ⟨Nat.zero_le _, by simp [hsz]; omega⟩, Nat.sub_zero, id, get_flatK _ _ _ _ (by rw [hsz]; exact hj)]
        simp only [Array.getElem!_toList]
      · rw [List.getElem?_take_eq_none (by omega), List.getElem?_eq_none (by rw [flat_len (sz := 2) _ (fun cs h => by obtain ⟨x, _, rfl⟩ := List.mem_map.1 h; rfl)]; simp [hsz]; omega)]
    · exact (Below.refl base w).grown (grownBy_rowK _) hbase (fun g hg => by cases hg; exact hb)
end Go.Proofs.YtdcmjmcipgadlaaGreat

namespace Go.Proofs.YtdcmjmcipgadlaaGreat
open Go.RowKit Go.Sort
set_option maxRecDepth 100000

theorem cmpLo_lt (x y : Int) : ltOf cmpI x y = decide (x < y) := by
  unfold ltOf cmpI
  by_cases h1 : x < y
  · simp [h1]
  · by_cases h2 : y < x <;> simp [h1, h2]
theorem swoI : SWO (ltOf cmpI) where
  irrefl x := by rw [cmpLo_lt]; simp
  trans x y z h1 h2 := by rw [cmpLo_lt] at *; simp at *; omega
  ntrans x y z h1 h2 := by rw [cmpLo_lt] at *; simp at *; omega
theorem cmpI_nonneg (a b : Int) : 0 ≤ cmpI b a ↔ a ≤ b := by
  unfold cmpI; split <;> (try split) <;> omega

theorem ofClo_any (x y : Int × Int) (W : World) : Calls Tryz.prog 142 #[.agg #[.int .i64 x.1, .int .i64 x.2], .agg #[.int .i64 y.1, .int .i64 y.2]] W fun e w' => e = .returned (.int .i64 (cmpI x.1 y.1)) ∧ ∃ q os', w' = grow (W.drewN q) os' := by
  go_enter Tryz.func142, Tryz.ntmps142
  go_wp2_with (go_at_call 143; refine (cmp64_any _ _ _).mono ?_; rintro e w' ⟨rfl, rfl⟩)
  go_ret
  exact ⟨rfl, 0, _, by rw [alloc_eq_grow, alloc_eq_grow, grow_grow]; rfl⟩

def dup (n : Int) : Int × Int := (n, n)
/-- Sorted numbers, joined: the reference's set. -/
theorem join_of {ns ts : List Int} (hn : ∀ x ∈ ns, numB x = true) (hp : ts.Perm ns) (hs : ts.Pairwise fun a b => a ≤ b) : joinL (ts.map dup) = ofL ns := by
  have hn' : ∀ x ∈ ns, 1 ≤ x ∧ x ≤ 1099511627776 := fun x hx => by simpa [numB] using hn x hx
  obtain ⟨a1, a2⟩ := ofL_right hn'
  obtain ⟨b1, b2⟩ := joinL_right (l := ts.map dup) (fun r hr => by
    obtain ⟨x, hx, rfl⟩ := List.mem_map.1 hr
    have := hn' x (hp.subset hx)
    exact ⟨this.1, Int.le_refl _, this.2⟩) (List.pairwise_map.2 hs)
  refine runs_eq _ _ none none b1 a1 fun n => ?_
  rw [b2, Bool.eq_iff_iff, a2]
  unfold hasL
  rw [List.any_eq_true]
  constructor
  · rintro ⟨r, hr, h⟩
    obtain ⟨x, hx, rfl⟩ := List.mem_map.1 hr
    have h2 : x ≤ n ∧ n ≤ x := by
      have h3 : (decide (x ≤ n) && decide (n ≤ x)) = true := h
      simpa using h3
    obtain rfl : n = x := by omega
    exact hp.subset hx
  · intro h
    exact ⟨dup n, List.mem_map.2 ⟨n, hp.symm.subset h, rfl⟩, by simp [dup, inR]⟩

set_option maxHeartbeats 1000000 in
theorem sof_any (ns : List Int) (v : Value) (w : World) (h : SlP w w.heap.size 1 InE v ns) (hn : ∀ x ∈ ns, numB x = true) (hN : ns.length ≤ 400000) :
    Calls Tryz.prog 116 #[v] w fun e w' => ∃ v', e = .returned (.tuple #[v', .int .i64 0]) ∧ OwnP w' w.heap.size 144 2 RuE v' (ofL ns) ∧ Below w.heap.size w w' := by
  obtain ⟨A, c, rfl, b1, b2, b3⟩ := h
  unfold Big at b2
  go_enter Tryz.func116, Tryz.ntmps116
  go_wp2_with fail
  go_loopw [4, 9] (fun v i wr => ∃ k : Nat, k ≤ ns.length ∧ i = .int .i64 k ∧ OwnP wr w.heap.size 144 2 RuE v ((ns.take k).map dup) ∧ Below w.heap.size w wr) (fun _ i _ => ns.length - (intOf i).toNat)
  case atStart => exact ⟨0, Nat.zero_le _, rfl, OwnP.nil, Below.refl _ _⟩
  case round =>
    obtain ⟨k, hk, rfl, hown, hb⟩ := hrel
    have hsz := hb.size
    by_cases hlt : k < ns.length
    · obtain ⟨x, hx⟩ : ∃ x, ns[k]? = some x := ⟨_, List.getElem?_eq_getElem hlt⟩
      obtain ⟨b, off, rfl, hbB, hc⟩ := b3 (by rintro rfl; simp at hlt)
      obtain ⟨cs, ⟨rfl, hok⟩, _, hu⟩ := hc k _ hx
      have e0 : wr.cell? ⟨b, off + k, none⟩ = some (.int .i64 x) := (hb.cell hbB).trans (by simpa using hu 0 _ rfl)
      have HB := hid (hn x (List.mem_of_getElem? hx))
      have HX : Hid ((ns.take (k + 1)).map dup = (ns.take k).map dup ++ [dup x]) := by unfold Hid; rw [take_succ' hx, List.map_append]; rfl
      have HRE : Hid (RuE (dup x) [.int .i64 x, .int .i64 x]) := ⟨rfl, hok, hok⟩
      have HL : Hid (((ns.take k).map dup).length + [dup x].length ≤ Few) := by unfold Hid Few; simp; omega
      clear hu hx hc b3 hok
      go_wp2_with (first | (go_at_call 140; refine (snum_any _ _).mono ?_; rw [HB.out]; rintro e w' ⟨rfl, rfl⟩) | (at_builtin; with_reducible refine wpList_few rfl (.tmp 16) (.tmp 20) _ rfl eiRun (by decide) (by decide) (fun _ _ h => h.one) rfl (hown.alloc _) rfl (SlP.one (x := dup x) HRE.out rfl _ rfl) HL.out (by rw [World.size_alloc]; omega) ?_; intro v1 w1 hown1 hb1 _))
      go_roundw
      case rel => exact ⟨k + 1, by omega, by go_num, by rw [HX.out]; exact hown1, hb.trans (((Below.refl _ _).alloc (by omega) _).trans hb1)⟩
      case measure => simp [intOf]; omega
    · obtain rfl : k = ns.length := by omega
      rw [List.take_of_length_le (Nat.le_refl _)] at hown
      have HC : Hid (∀ W base v, OwnP W base 144 2 RuE v (ns.map dup) → base ≤ W.heap.size → Calls Tryz.prog 141 #[v, .func (.func 142) #[] #[]] W fun e w' => e = .returned (.tuple #[]) ∧
        ∃ ts : List Int, ts.Perm ns ∧ ts.Pairwise (fun a b => a ≤ b) ∧ OwnP w' base 144 2 RuE v (ts.map dup) ∧ Below base W w') := fun W base v ho hbs =>
          (sortRun_any dup cmpI swoI 142 (enters_of Tryz.func142 (by kernel_rfl) rfl) (fun x y W => ofClo_any (dup x) (dup y) W) ns v W base ho (by omega) hbs).mono fun e w' ⟨he, ts, h1, h2, h3, h4⟩ =>
            ⟨he, ts, h1, h2.imp fun h => (cmpI_nonneg _ _).1 h, h3, h4⟩
      have HN := hid hn
      clear hn b3
      go_wp2_with fail
      refine (HC.out _ _ _ hown hsz).mono ?_
      rintro e w1 ⟨rfl, ts, hp, hs, ho1, hb1⟩
      have HJ := hid (join_of HN.out hp hs)
      have hs1 := hb1.size
      have hlen : ts.length = ns.length := hp.length_eq
      have hsl := ho1.sl (by rw [List.length_map, hlen]; unfold Big; omega)
      have hro : RunsOk (ts.map dup) := fun r hr => by
        obtain ⟨x, hx, rfl⟩ := List.mem_map.1 hr
        have := HN.out x (hp.subset hx)
        simp [numB] at this
        simp [dup]; omega
      have HRO := hid hro
      have HL1 : Hid ((ts.map dup).length ≤ 900000) := by unfold Hid; rw [List.length_map, hlen]; omega
      clear hp hs hro hlen ho1 hown
      go_wp2_with fail
      refine (sjoined_any (ts.map dup) _ w1 hsl HL1.out HRO.out).mono ?_
      rintro e w2 ⟨v2, rfl, ho2, hb2⟩
      rw [HJ.out] at ho2
      go_wp2_with fail
      go_ret2
      exact ⟨_, rfl, ho2.mono (by omega), (hb.trans hb1).trans (hb2.mono (by omega))⟩
end Go.Proofs.YtdcmjmcipgadlaaGreat

namespace Go.Proofs.YtdcmjmcipgadlaaGreat
open Go.RowKit Go.Sort
set_option maxRecDepth 100000

def cmpR (x y : Int × Int) : Int := cmpI x.1 y.1
theorem cmpR_lt (x y : Int × Int) : ltOf cmpR x y = decide (x.1 < y.1) := cmpLo_lt x.1 y.1
theorem swoR : SWO (ltOf cmpR) where
  irrefl x := by rw [cmpR_lt]; simp
  trans x y z h1 h2 := by rw [cmpR_lt] at *; simp at *; omega
  ntrans x y z h1 h2 := by rw [cmpR_lt] at *; simp at *; omega
theorem unionClo_any (x y : Int × Int) (W : World) : Calls Tryz.prog 147 #[.agg #[.int .i64 x.1, .int .i64 x.2], .agg #[.int .i64 y.1, .int .i64 y.2]] W fun e w' => e = .returned (.int .i64 (cmpR x y)) ∧ ∃ q os', w' = grow (W.drewN q) os' := by
  go_enter Tryz.func147, Tryz.ntmps147
  go_wp2_with (go_at_call 143; refine (cmp64_any _ _ _).mono ?_; rintro e w' ⟨rfl, rfl⟩)
  go_ret
  exact ⟨rfl, 0, _, by rw [alloc_eq_grow, alloc_eq_grow, grow_grow]; rfl⟩

theorem runsOk_of {l : List (Int × Int)} (h : ∀ r ∈ l, runOk r) : RunsOk l := fun r hr => by
  have := h r hr; unfold runOk at this; omega
theorem runs_ok' : ∀ (l : List (Int × Int)) (p : Option Int), runsR p l = true → ∀ r ∈ l, runOk r
  | x :: l, p, h, r, hr => by
    rw [runsR_iff] at h
    rcases List.mem_cons.1 hr with rfl | hr
    · exact h.1
    · exact runs_ok' l _ h.2.2 r hr
/-- Runs of both, sorted and joined: the reference's union. -/
theorem join_union {a b ts : List (Int × Int)} (ha : runsR none a = true) (hb : runsR none b = true) (hp : ts.Perm (a ++ b)) (hs : ts.Pairwise fun x y => x.1 ≤ y.1) : joinL ts = byL a b 0 := by
  have oa := runs_ok' a none ha
  have ob := runs_ok' b none hb
  have ot : ∀ r ∈ ts, runOk r := fun r hr => by
    rcases List.mem_append.1 (hp.subset hr) with h | h
    · exact oa r h
    · exact ob r h
  obtain ⟨a1, a2⟩ := joinL_right ot hs
  obtain ⟨b1, b2⟩ := byL_right 0 oa ob
  refine runs_eq _ _ none none a1 b1 fun n => ?_
  rw [a2, b2]
  have : hasL ts n = hasL (a ++ b) n := by
    unfold hasL
    rw [Bool.eq_iff_iff, List.any_eq_true, List.any_eq_true]
    exact ⟨fun ⟨r, h1, h2⟩ => ⟨r, hp.subset h1, h2⟩, fun ⟨r, h1, h2⟩ => ⟨r, hp.symm.subset h1, h2⟩⟩
  rw [this, hasL_app]
  simp [inn]

theorem sboth_any (a b : List (Int × Int)) (va vb : Value) (w : World) (ha : SlP w w.heap.size 2 RuE va a) (hb : SlP w w.heap.size 2 RuE vb b) :
    Calls Tryz.prog 145 #[va, vb] w fun e w' => e = .returned (.bool (runsR none a && runsR none b)) ∧ Below w.heap.size w w' := by
  have HB := hid hb
  go_enter Tryz.func145, Tryz.ntmps145
  go_wp2_with fail
  refine (sright_any a va w ha).mono ?_
  rintro e w1 ⟨rfl, hb1⟩
  have hs1 := hb1.size
  cases hr : runsR none a
  · have HR := hid hr
    clear hr
    go_wp2_with fail
    go_ret
    exact ⟨ret_bool (by rw [HR.out]; rfl), hb1⟩
  · have HR := hid hr
    clear hr
    go_wp2_with fail
    refine (sright_any b vb w1 (HB.out.imp hb1 hs1 fun _ _ _ h => h)).mono ?_
    rintro e w2 ⟨rfl, hb2⟩
    go_wp2_with fail
    go_ret
    exact ⟨ret_bool (by rw [HR.out]; rfl), hb1.trans (hb2.mono hs1)⟩

set_option maxHeartbeats 2000000 in
theorem sunion_any (a b : List (Int × Int)) (va vb : Value) (w : World) (ha : SlP w w.heap.size 2 RuE va a) (hb : SlP w w.heap.size 2 RuE vb b) (hra : runsR none a = true) (hrb : runsR none b = true) (hN : a.length ≤ 300000) (hN' : b.length ≤ 300000) :
    Calls Tryz.prog 119 #[va, vb] w (RetO w 144 2 (fun _ => RuE) (byL a b 0)) := by
  have HA := hid ha
  have HB := hid hb
  have HRA := hid hra
  have HRB := hid hrb
  have hor : RunsOk (a ++ b) := runsOk_of fun r hr => by
    rcases List.mem_append.1 hr with h | h
    · exact runs_ok' a none hra r h
    · exact runs_ok' b none hrb r h
  have HOR := hid hor
  obtain ⟨A1, c1, rfl, _⟩ := ha
  obtain ⟨A2, c2, rfl, _⟩ := hb
  clear hra hrb hor
  go_enter Tryz.func119, Tryz.ntmps119
  go_wp2_with fail
  refine (sboth_any a b _ _ w HA.out HB.out).mono ?_
  rw [HRA.out, HRB.out]
  rintro e w1 ⟨rfl, hb1⟩
  have hs1 := hb1.size
  go_wp2_with fail
  refine (concat_any a b (.slice A1 a.length c1) (.slice A2 b.length c2) w1.heap.size _ (by simp) (by simp) (by simp) (HA.out.imp (hb1.alloc hs1 _) (by simp; omega) fun _ _ _ h => h) (HB.out.imp (hb1.alloc hs1 _) (by simp; omega) fun _ _ _ h => h) hN hN').mono ?_
  rintro e w2 ⟨v2, rfl, ho2, hb2⟩
  have hs2 := hb2.size
  simp only [World.size_alloc] at hs2
  have hB2 : Below w.heap.size w w2 := (hb1.alloc hs1 _).trans (hb2.mono (by simp; omega))
  have ho2' : OwnP w2 (w1.heap.size + 1) 144 2 RuE v2 ((a ++ b).map id) := by rw [List.map_id]; exact ho2.mono (by simp)
  go_wp2_with fail
  refine (sortRun_any id cmpR swoR 147 (enters_of Tryz.func147 (by kernel_rfl) rfl) (fun x y W => unionClo_any x y W) (a ++ b) v2 w2 _ ho2' (by simp; omega) hs2).mono ?_
  rintro e w3 ⟨rfl, ts, hp, hs, ho3, hb3⟩
  rw [List.map_id] at ho3
  have hs3 := hb3.size
  have hJ := join_union HRA.out HRB.out hp (hs.imp fun h => (cmpI_nonneg _ _).1 h)
  have HJ := hid hJ
  have hlen : ts.length = a.length + b.length := by rw [hp.length_eq, List.length_append]
  have hsl := ho3.sl (by rw [hlen]; unfold Big; omega)
  have HSL := hid hsl
  have HTR : Hid (RunsOk ts) := fun r hr => HOR.out r (hp.subset hr)
  have hl3 : ts.length ≤ 900000 := by omega
  clear hp hs ho3 hJ hsl ho2 ho2' hlen
  go_wp2_with fail
  refine (sjoined_any ts _ w3 HSL.out hl3 HTR.out).mono ?_
  rintro e w4 ⟨v4, rfl, ho4, hb4⟩
  rw [HJ.out] at ho4
  go_wp2_with fail
  go_ret
  exact ⟨_, rfl, ho4.mono (by omega), (hB2.trans (hb3.mono (by omega))).trans (hb4.mono (by omega))⟩
end Go.Proofs.YtdcmjmcipgadlaaGreat

namespace Go.Proofs.YtdcmjmcipgadlaaGreat
open Go.RowKit
set_option maxRecDepth 100000

/-- A rule on sets: it hands back the reference's set. -/
def RuleRun (g : Nat) (how : Int) : Prop :=
  (∀ args W, (callFunc g args).run Tryz.prog W = .ok (.enter g args) W) ∧
  ∀ (a b : List (Int × Int)) (va vb : Value) (W : World), SlP W W.heap.size 2 RuE va a → SlP W W.heap.size 2 RuE vb b → runsR none a = true → runsR none b = true → a.length ≤ 100000 → b.length ≤ 100000 →
    Calls Tryz.prog g #[va, vb] W (RetO W 144 2 (fun _ => RuE) (byL a b how))

/-- The state of the loop: array p0 holds what was made of the first k centers, and the rest of the first context. -/
def ByA (a b : List Sp) (how : Int) (vs us : Nat → Value) (w1 w2 : World) (k : Nat) (wr : World) : Prop :=
  ∃ ps : Nat → Value, wr.heap[w1.heap.size]? = some (.cells #[ps 0, ps 1, ps 2, ps 3] 120 (0, 0)) ∧ wr.heap[w2.heap.size]? = some (.cells #[us 0, us 1, us 2, us 3] 120 (0, 0)) ∧
    (∀ j, j < k → OwnP wr (w2.heap.size + 1) 144 2 RuE (ps j) (byL (partL a (j : Int)) (partL b (j : Int)) how)) ∧ (∀ j, k ≤ j → ps j = vs j) ∧ (∀ blk, w1.heap.size < blk → blk < w2.heap.size → wr.heap[blk]? = w2.heap[blk]?) ∧ Below w1.heap.size w1 wr

set_option maxHeartbeats 4000000 in
theorem cby_any (a b : List Sp) (how : Int) (g : Nat) (hf : RuleRun g how) (va vb : Value) (w : World) (ha : SlP w w.heap.size 3 SpE va a) (hb : SlP w w.heap.size 3 SpE vb b) (hra : apartB a = true) (hrb : apartB b = true) (hN : a.length ≤ 20000) (hN' : b.length ≤ 20000) :
    Calls Tryz.prog 118 #[va, vb, .func (.func g) #[] #[]] w (RetO w 79 3 (fun _ => SpE) (ctxBy a b how)) := by
  obtain ⟨eg, hf⟩ := hf
  have HA := hid ha
  have HB := hid hb
  obtain ⟨A1, c1, rfl, _⟩ := ha
  obtain ⟨A2, c2, rfl, _⟩ := hb
  go_enter Tryz.func118, Tryz.ntmps118
  go_wp2_with fail
  refine (apart_any a _ w HA.out (by omega)).mono ?_
  rintro e w1 ⟨vs, rfl, hsl, hb1⟩
  have hs1 := hb1.size
  rw [hra]
  simp only [hra, if_true] at hsl
  obtain ⟨B0, m0, g0, _⟩ := hsl 0 (by omega)
  obtain ⟨B1, m1, g1, _⟩ := hsl 1 (by omega)
  obtain ⟨B2, m2, g2, _⟩ := hsl 2 (by omega)
  obtain ⟨B3, m3, g3, _⟩ := hsl 3 (by omega)
  have HVS := hid (fun i (hi : i < 4) => (hsl i hi).slp (fun b hb => hb.2) (Below.refl _ w1))
  have G0 := hid g0
  have G1 := hid g1
  have G2 := hid g2
  have G3 := hid g3
  simp only [g0, g1, g2, g3]
  clear hsl g0 g1 g2 g3
  go_wp2_with fail
  refine (apart_any b _ _ (HB.out.imp (hb1.alloc hs1 _) (by simp; omega) fun _ _ _ h => h) (by omega)).mono ?_
  rintro e w2 ⟨us, rfl, hsl, hb2⟩
  have hs2 := hb2.size
  simp only [World.size_alloc] at hs2
  rw [hrb]
  simp only [hrb, if_true] at hsl
  obtain ⟨D0, n0, k0, _⟩ := hsl 0 (by omega)
  obtain ⟨D1, n1, k1, _⟩ := hsl 1 (by omega)
  obtain ⟨D2, n2, k2, _⟩ := hsl 2 (by omega)
  obtain ⟨D3, n3, k3, _⟩ := hsl 3 (by omega)
  have HUS := hid hsl
  have K0 := hid k0
  have K1 := hid k1
  have K2 := hid k2
  have K3 := hid k3
  simp only [k0, k1, k2, k3]
  clear hsl k0 k1 k2 k3
  have hp2 := hid ((hb2.block w1.heap.size (by simp)).trans (heap_new rfl))
  have hB2 : Below w1.heap.size w1 w2 := ((Below.refl _ w1).alloc (Nat.le_refl _) _).trans (hb2.mono (by simp))
  go_wp2_with fail
  go_loopw [28] (fun i wr => ∃ k : Nat, k ≤ 4 ∧ i = .int .i64 k ∧ ByA a b how vs us w1 w2 k wr) (fun i _ => 4 - (intOf i).toNat)
  case atStart =>
    refine ⟨0, by omega, rfl, vs, ?_, ?_, fun j hj => absurd hj (Nat.not_lt_zero _), fun _ _ => rfl, fun blk _ hb => heap_old hb, hB2.alloc (by omega) _⟩
    · rw [heap_old (by omega), G0.out, G1.out, G2.out, G3.out]; exact hp2.out
    · rw [heap_new rfl, K0.out, K1.out, K2.out, K3.out]; rfl
  case round =>
    obtain ⟨k, hk, rfl, ps, hpa, hqa, hpo, hpv, hkp, hbr⟩ := hrel
    have hsz := hbr.size
    have hp3 : w1.heap.size < wr.heap.size := (Array.getElem?_eq_some_iff.1 hpa).1
    have hq3 : w2.heap.size < wr.heap.size := (Array.getElem?_eq_some_iff.1 hqa).1
    by_cases hk4 : k < 4
    · have hki : (k : Int) < 4 := by omega
      have hla := partL_len a k
      have hlb := partL_len b k
      have hq2 : w2.heap.size + 1 ≤ wr.heap.size := by omega
      have HSA : Hid (SlP wr.drew wr.drew.heap.size 2 RuE (vs k) (partL a k)) := (HVS.out k hk4).imp hbr.drew hsz fun _ _ _ h => h
      have HSB : Hid (SlP wr.drew wr.drew.heap.size 2 RuE (us k) (partL b k)) := SlP_iff.2 ((HUS.out k hk4).up (w' := wr.drew) (fun blk hb => hkp blk (by have := hb.1; simp only [World.size_alloc] at this; omega) hb.2) (fun blk hb => by have := hb.2; show blk < wr.heap.size; omega) (fun _ _ _ h => h))
      have hcall := hf (partL a k) (partL b k) (vs k) (us k) wr.drew HSA.out HSB.out (apart_part hra hk4) (apart_part hrb hk4) (by omega) (by omega)
      have hpc : wr.cell? ⟨w1.heap.size, k, none⟩ = some (vs k) := by rw [cell_cells hpa, four_get ps hk4, hpv k (Nat.le_refl _)]
      have hqc : wr.cell? ⟨w2.heap.size, k, none⟩ = some (us k) := (cell_cells hqa).trans (four_get us hk4)
      have HPA := hid hpa
      have HQA := hid hqa
      have HPO := hid hpo
      have HPV := hid hpv
      have HKP := hid hkp
      have HCALL := hid hcall
      clear hpa hqa hpo hpv hkp hf hcall
      go_wp2_with fail
      refine wp_region_pop_n (S := fun w' => w'.cell? ⟨w1.heap.size, k, none⟩ = some (vs k) ∧ w'.cell? ⟨w2.heap.size, k, none⟩ = some (us k)) 10 (by kernel_rfl) (by kernel_rfl) ?_
      simp only [List.take_succ_cons, List.take_zero, List.drop_succ_cons, List.drop_zero]
      have hHeld : (fun w' : World => w'.cell? ⟨w1.heap.size, k, none⟩ = some (vs k) ∧ w'.cell? ⟨w2.heap.size, k, none⟩ = some (us k)) wr.drew := by go_keep
      refine wpAnyH_take (i := 0) (oi := _) (v := ?v0) rfl (by kernel_rfl) (by kernel_rfl) (by kernel_rfl) (fun _ _ _ h => h) (Or.inl ⟨by rfl, ?h0⟩) (by assumption) ?_
      case h0 => (intro w hSw; (try dsimp only at hSw); go_simp; (try with_reducible rfl))
      simp only [Act.put, List.setIfInBounds_toArray]
      refine wpAnyH_take (i := 1) (oi := _) (v := ?v1) rfl (by kernel_rfl) (by kernel_rfl) (by kernel_rfl) (fun _ _ _ h => h) (Or.inl ⟨by rfl, ?h1⟩) (by assumption) ?_
      case h1 => (intro w hSw; (try dsimp only at hSw); go_simp; (try with_reducible rfl))
      simp only [Act.put, List.setIfInBounds_toArray]
      refine wpAnyH_take (i := 2) (oi := _) (v := ?v2) rfl (by kernel_rfl) (by kernel_rfl) (by kernel_rfl) (fun _ _ _ h => h) (Or.inl ⟨by rfl, ?h2⟩) (by assumption) ?_
      case h2 => (intro w hSw; (try dsimp only at hSw); go_simp; (try with_reducible rfl))
      simp only [Act.put, List.setIfInBounds_toArray]
      refine wpAnyH_take (i := 3) (oi := _) (v := ?v3) rfl (by kernel_rfl) (by kernel_rfl) (by kernel_rfl) (fun _ _ _ h => h) (Or.inl ⟨by rfl, ?h3⟩) (by assumption) ?_
      case h3 => (intro w hSw; (try dsimp only at hSw); go_simp; (try with_reducible rfl))
      simp only [Act.put, List.setIfInBounds_toArray]
      refine wpAnyH_take (i := 4) (oi := _) (v := ?v4) rfl (by kernel_rfl) (by kernel_rfl) (by kernel_rfl) (fun _ _ _ h => h) (Or.inl ⟨by rfl, ?h4⟩) (by assumption) ?_
      case h4 => (intro w hSw; (try dsimp only at hSw); go_simp; (try with_reducible rfl))
      simp only [Act.put, List.setIfInBounds_toArray]
      refine wpAnyH_take (i := 5) (oi := _) (v := ?v5) rfl (by kernel_rfl) (by kernel_rfl) (by kernel_rfl) (fun _ _ _ h => h) (Or.inl ⟨by rfl, ?h5⟩) (by assumption) ?_
      case h5 => (intro w hSw; (try dsimp only at hSw); go_simp; (try with_reducible rfl))
      simp only [Act.put, List.setIfInBounds_toArray]
      refine wpAnyH_take (i := 6) (oi := _) (v := ?v6) rfl (by kernel_rfl) (by kernel_rfl) (by kernel_rfl) (fun _ _ _ h => h) (Or.inl ⟨by rfl, ?h6⟩) (by assumption) ?_
      case h6 => (intro w hSw; (try dsimp only at hSw); go_simp; (try with_reducible rfl))
      simp only [Act.put, List.setIfInBounds_toArray]
      refine wpAnyH_take (i := 7) (oi := _) (v := ?v7) rfl (by kernel_rfl) (by kernel_rfl) (by kernel_rfl) (fun _ _ _ h => h) (Or.inl ⟨by rfl, ?h7⟩) (by assumption) ?_
      case h7 => (intro w hSw; (try dsimp only at hSw); go_simp; (try with_reducible rfl))
      simp only [Act.put, List.setIfInBounds_toArray]
      refine wpAnyH_ready (rs := [8]) (by kernel_rfl) (by simp) ?_
      refine AllReadyH.cons (o := _) rfl (fun K hK => ?_) AllReadyH.nil
      go_simp
      refine HCALL.out.mono ?_
      rintro e w3 ⟨v3, rfl, ho3, hb3⟩
      obtain ⟨A3, c3, rfl⟩ := ho3.shape
      have hb3' : Below wr.heap.size wr w3 := (Below.refl _ wr).drew.trans hb3
      have hp4 := (hb3'.block w1.heap.size hp3).trans HPA.out
      have hq4 := (hb3'.block w2.heap.size hq3).trans HQA.out
      have hpc3 : w3.cell? ⟨w1.heap.size, k, none⟩ = some (vs k) := by rw [cell_cells hp4, four_get ps hk4, HPV.out k (Nat.le_refl _)]
      have hqc3 : w3.cell? ⟨w2.heap.size, k, none⟩ = some (us k) := (cell_cells hq4).trans (four_get us hk4)
      have hf3 : w3.frozen? ⟨w1.heap.size, k, none⟩ = false := cells_frz hp4
      have HP4 := hid hp4
      have HQ4 := hid hq4
      have HO3 := hid ho3
      have HB3 := hid hb3'
      clear hp4 hq4 ho3 hb3 hb3'
      dsimp only
      refine hK.out _ _ ⟨hpc3, hqc3⟩ (fun hHeld8 => ?_)
      clear hK K
      simp only [List.setIfInBounds_toArray]
      refine wpAnyH_take (i := 9) (oi := _) (v := ?v9) rfl (by kernel_rfl) (by kernel_rfl) (by kernel_rfl) (fun _ _ _ h => h) (Or.inl ⟨by rfl, ?h9⟩) (by assumption) ?_
      case h9 => (intro w hSw; (try dsimp only at hSw); go_simp; (try with_reducible rfl))
      simp only [Act.put, List.setIfInBounds_toArray]
      refine wpAnyH_done (by kernel_rfl) ?_ _
      change wpList _ _ _ _ _ _
      go_wp2_with fail
      go_roundw
      case rel =>
        have hs3 := HB3.out.size
        refine ⟨k + 1, by omega, by go_num, fun j => if j = k then .slice A3 (byL (partL a k) (partL b k) how).length c3 else ps j, ?_, ?_, fun j hj => ?_, fun j hj => ?_, fun blk h1 h2 => ?_, (hbr.trans (HB3.out.mono hsz)).setCell (Nat.le_refl _) _⟩
        · rw [cells_set HP4.out, four_set ps hk4]
        · exact (Below.heap_setCell _ _ _ _ (by show w2.heap.size ≠ w1.heap.size; omega)).trans HQ4.out
        · by_cases e : j = k
          · subst e
            simp only [if_true]
            exact (HO3.out.mono (by show _ ≤ wr.heap.size; omega)).setOther (by show w1.heap.size < _; omega) _
          · simp only [if_neg e]
            exact ((HPO.out j (by omega)).grow HB3.out).setOther (by show w1.heap.size < _; omega) _
        · show (if j = k then _ else ps j) = vs j
          rw [if_neg (show ¬ j = k by omega)]; exact HPV.out j (by omega)
        · exact (Below.heap_setCell _ _ _ _ (by show blk ≠ w1.heap.size; omega)).trans ((HB3.out.block blk (by omega)).trans (HKP.out blk h1 h2))
      case measure => simp [intOf]; omega
    · obtain rfl : k = 4 := by omega
      have d0 : wr.cell? ⟨w1.heap.size, 0, none⟩ = some (ps 0) := cell_cells (i := 0) hpa
      have d1 : wr.cell? ⟨w1.heap.size, 1, none⟩ = some (ps 1) := cell_cells (i := 1) hpa
      have d2 : wr.cell? ⟨w1.heap.size, 2, none⟩ = some (ps 2) := cell_cells (i := 2) hpa
      have d3 : wr.cell? ⟨w1.heap.size, 3, none⟩ = some (ps 3) := cell_cells (i := 3) hpa
      have HOL : ∀ j : Nat, (byL (partL a (j : Int)) (partL b (j : Int)) how).length ≤ 80001 := fun j => by
        have := byL_len (partL a (j : Int)) (partL b (j : Int)) how; have := partL_len a (j : Int); have := partL_len b (j : Int); omega
      have HSP : Hid (∀ j, j < 4 → SlP wr wr.heap.size 2 RuE (ps j) (byL (partL a (j : Int)) (partL b (j : Int)) how)) := fun j hj => (hpo j hj).sl (by have := HOL j; unfold Big; omega)
      have HOLH := hid HOL
      clear hpa hqa hpo hpv hkp HOL
      go_wp2_with fail
      refine (whole_any (fun j => byL (partL a (j : Int)) (partL b (j : Int)) how) ps wr HSP.out (fun j _ => by have := HOLH.out j; show (byL _ _ _).length ≤ _; omega)).mono ?_
      rintro e w4 ⟨v4, rfl, ho4, hb4⟩
      go_wp2_with fail
      go_ret
      exact ⟨_, rfl, ho4.mono (by omega), (hb1.trans (hbr.mono hs1)).trans (hb4.mono (by omega))⟩

theorem union_rule : RuleRun 119 0 :=
  ⟨enters_of Tryz.func119 (by kernel_rfl) rfl, fun a b va vb W ha hb hra hrb hN hN' => sunion_any a b va vb W ha hb hra hrb (by omega) (by omega)⟩
theorem cunion_any (a b : List Sp) (va vb : Value) (w : World) (ha : SlP w w.heap.size 3 SpE va a) (hb : SlP w w.heap.size 3 SpE vb b) (hra : apartB a = true) (hrb : apartB b = true) (hN : a.length ≤ 20000) (hN' : b.length ≤ 20000) :
    Calls Tryz.prog 82 #[va, vb] w (RetO w 79 3 (fun _ => SpE) (ctxBy a b 0)) := by
  go_enter Tryz.func82, Tryz.ntmps82
  go_wp2_with fail
  refine (cby_any a b 0 _ union_rule va vb w ha hb hra hrb hN hN').mono ?_
  rintro e w1 ⟨v, rfl, h⟩
  go_wp2_with fail
  go_ret
  exact ⟨v, rfl, h⟩
end Go.Proofs.YtdcmjmcipgadlaaGreat

namespace Go.Proofs.YtdcmjmcipgadlaaGreat
open Go.RowKit
set_option maxRecDepth 100000

/-- What of the numbers lo to hi is in none of the runs. -/
def cutL : List (Int × Int) → Int → Int → List (Int × Int)
  | [], lo, hi => if lo ≤ hi then [(lo, hi)] else []
  | x :: b, lo, hi => if x.2 < lo ∨ hi < x.1 then cutL b lo hi else if lo < x.1 then (lo, x.1 - 1) :: cutL b (x.2 + 1) hi else cutL b (x.2 + 1) hi
def minusL (a b : List (Int × Int)) : List (Int × Int) := a.flatMap fun r => cutL b r.1 r.2
theorem cutL_len : ∀ (b : List (Int × Int)) (lo hi : Int), (cutL b lo hi).length ≤ b.length + 1
  | [], lo, hi => by rw [cutL]; split <;> simp
  | x :: b, lo, hi => by
    rw [cutL]
    have h1 := cutL_len b lo hi
    have h2 := cutL_len b (x.2 + 1) hi
    split
    · simp; omega
    · split <;> simp <;> omega
theorem minusL_take {a b : List (Int × Int)} {k : Nat} {r : Int × Int} (h : a[k]? = some r) : minusL (a.take (k + 1)) b = minusL (a.take k) b ++ cutL b r.1 r.2 := by
  unfold minusL; rw [List.take_add_one, h]; simp
theorem cutL_drop {b : List (Int × Int)} {k : Nat} {x : Int × Int} (h : b[k]? = some x) (lo hi : Int) : cutL (b.drop k) lo hi = (if x.2 < lo ∨ hi < x.1 then cutL (b.drop (k + 1)) lo hi else if lo < x.1 then (lo, x.1 - 1) :: cutL (b.drop (k + 1)) (x.2 + 1) hi else cutL (b.drop (k + 1)) (x.2 + 1) hi) := by
  have hlt := (List.getElem?_eq_some_iff.1 h).1
  rw [List.drop_eq_getElem_cons hlt, (List.getElem?_eq_some_iff.1 h).2, cutL]

theorem hasL_cons (x : Int × Int) (l : List (Int × Int)) (n : Int) : hasL (x :: l) n = (inR x n || hasL l n) := rfl
theorem runs_gt' : ∀ (l : List (Int × Int)) (q n : Int), runsR (some q) l = true → hasL l n = true → q + 1 < n
  | x :: l, q, n, h, hn => by
    rw [runsR_iff] at h
    obtain ⟨h1, h2, h3⟩ := h
    unfold runOk at h1
    simp only [okR, decide_eq_true_eq] at h2
    rw [hasL_cons, Bool.or_eq_true] at hn
    rcases hn with hn | hn
    · simp [inR] at hn; omega
    · have := runs_gt' l x.2 n h3 hn; omega
  | [], q, n, _, hn => by simp [hasL] at hn
theorem runs_wk {l : List (Int × Int)} {q : Int} (h : runsR (some q) l = true) : ∀ p : Option Int, (∀ q', p = some q' → q' ≤ q) → runsR p l = true := by
  intro p hp
  cases l with
  | nil => cases p <;> rfl
  | cons x l =>
    rw [runsR_iff] at h ⊢
    refine ⟨h.1, ?_, h.2.2⟩
    cases p with
    | none => rfl
    | some q' =>
      have := hp q' rfl
      have h2 := h.2.1
      simp only [okR, decide_eq_true_eq] at h2 ⊢
      omega
theorem cut_runs : ∀ (b : List (Int × Int)) (p0 p : Option Int) (lo hi : Int) (rest : List (Int × Int)), runsR p0 b = true → okR p lo = true → 1 ≤ lo → hi ≤ 1099511627776 → (∀ q, p = some q → q ≤ hi) → runsR (some hi) rest = true → runsR p (cutL b lo hi ++ rest) = true
  | [], p0, p, lo, hi, rest, _, hp, h1, h2, hq, hr => by
    rw [cutL]
    split
    · rename_i hle
      rw [List.singleton_append, runsR_iff]
      exact ⟨⟨h1, hle, h2⟩, hp, hr⟩
    · exact runs_wk hr p hq
  | x :: b, p0, p, lo, hi, rest, h, hp, h1, h2, hq, hr => by
    rw [runsR_iff] at h
    obtain ⟨hx, _, hb⟩ := h
    unfold runOk at hx
    rw [cutL]
    split
    · exact cut_runs b _ p lo hi rest hb hp h1 h2 hq hr
    · rename_i hc
      split
      · rename_i hl
        rw [List.cons_append, runsR_iff]
        exact ⟨⟨h1, by show lo ≤ x.1 - 1; omega, by show x.1 - 1 ≤ _; omega⟩, hp, cut_runs b _ _ (x.2 + 1) hi rest hb (by simp only [okR, decide_eq_true_eq]; omega) (by omega) h2 (fun q e => by cases e; omega) hr⟩
      · refine cut_runs b _ p (x.2 + 1) hi rest hb ?_ (by omega) h2 hq hr
        cases p with
        | none => rfl
        | some q => simp only [okR, decide_eq_true_eq] at hp ⊢; omega
theorem minus_runs (b : List (Int × Int)) (hb : runsR none b = true) : ∀ (a : List (Int × Int)) (p : Option Int), runsR p a = true → runsR p (minusL a b) = true
  | [], p, _ => by cases p <;> rfl
  | r :: a, p, h => by
    rw [runsR_iff] at h
    obtain ⟨h1, h2, h3⟩ := h
    unfold runOk at h1
    show runsR p (cutL b r.1 r.2 ++ minusL a b) = true
    refine cut_runs b none p r.1 r.2 _ hb h2 h1.1 h1.2.2 (fun q e => ?_) (minus_runs b hb a _ h3)
    subst e
    simp only [okR, decide_eq_true_eq] at h2
    omega
theorem has_cut : ∀ (b : List (Int × Int)) (p : Option Int) (lo hi n : Int), runsR p b = true → hasL (cutL b lo hi) n = (decide (lo ≤ n) && decide (n ≤ hi) && !hasL b n)
  | [], p, lo, hi, n, _ => by
    rw [cutL]
    split
    · simp [hasL, inR]
    · rw [Bool.eq_iff_iff]; simp [hasL]; omega
  | x :: b, p, lo, hi, n, h => by
    rw [runsR_iff] at h
    obtain ⟨hx, _, hb⟩ := h
    unfold runOk at hx
    have hgt := runs_gt' b x.2 n hb
    have e1 := has_cut b _ lo hi n hb
    have e2 := has_cut b _ (x.2 + 1) hi n hb
    rw [cutL, hasL_cons]
    have hin : inR x n = (decide (x.1 ≤ n) && decide (n ≤ x.2)) := rfl
    split
    · rw [e1, hin]
      cases hbn : hasL b n <;> rw [Bool.eq_iff_iff] <;> simp <;> omega
    · split
      · rw [hasL_cons, e2, Bool.eq_iff_iff]
        simp [inR]
        cases hbn : hasL b n <;> simp [hbn] at hgt ⊢ <;> omega
      · rw [e2, hin]
        cases hbn : hasL b n <;> simp [hbn] at hgt <;> rw [Bool.eq_iff_iff] <;> simp <;> omega
theorem hasL_app' (a b : List (Int × Int)) (n : Int) : hasL (a ++ b) n = (hasL a n || hasL b n) := by unfold hasL; rw [List.any_append]
theorem has_minus (b : List (Int × Int)) (hb : runsR none b = true) (n : Int) : ∀ (a : List (Int × Int)), hasL (minusL a b) n = (hasL a n && !hasL b n)
  | [] => by simp [minusL, hasL]
  | r :: a => by
    show hasL (cutL b r.1 r.2 ++ minusL a b) n = _
    rw [hasL_app', has_cut b none _ _ n hb, has_minus b hb n a, hasL_cons, Bool.and_or_distrib_right]; rfl
/-- Runs taken away, one behind the other: the reference's difference. -/
theorem minus_by {a b : List (Int × Int)} (ha : runsR none a = true) (hb : runsR none b = true) : minusL a b = byL a b 2 := by
  have h := byL_right (a := a) (b := b) 2 (runs_ok' a none ha) (runs_ok' b none hb)
  refine runs_eq _ _ none none (minus_runs b hb a none ha) h.1 fun n => ?_
  rw [has_minus b hb n a, h.2 n]
  simp [inn]
end Go.Proofs.YtdcmjmcipgadlaaGreat

namespace Go.Proofs.YtdcmjmcipgadlaaGreat
open Go.RowKit
set_option maxRecDepth 100000

theorem minusL_le (a b : List (Int × Int)) (k : Nat) : (minusL (a.take k) b).length ≤ (minusL a b).length := by
  have h : minusL a b = minusL (a.take k) b ++ minusL (a.drop k) b := by unfold minusL; rw [← List.flatMap_append, List.take_append_drop]
  rw [h]; simp

set_option maxHeartbeats 4000000 in
theorem sminus_any (a b : List (Int × Int)) (va vb : Value) (w : World) (ha : SlP w w.heap.size 2 RuE va a) (hb : SlP w w.heap.size 2 RuE vb b) (hra : runsR none a = true) (hrb : runsR none b = true) (hN : (minusL a b).length ≤ 900000) :
    Calls Tryz.prog 152 #[va, vb] w (RetO w 144 2 (fun _ => RuE) (minusL a b)) := by
  have HA := hid ha
  have HB := hid hb
  have HRA := hid hra
  have HRB := hid hrb
  obtain ⟨A1, c1, rfl, a1, a2, a3⟩ := ha
  obtain ⟨A2, c2, rfl, b1, b2, b3⟩ := hb
  unfold Big at a2 b2
  clear hra hrb
  go_enter Tryz.func152, Tryz.ntmps152
  go_wp2_with fail
  refine (sboth_any a b _ _ w HA.out HB.out).mono ?_
  rw [HRA.out, HRB.out]
  rintro e w1 ⟨rfl, hb1⟩
  have hs1 := hb1.size
  go_wp2_with fail
  go_loopw [5, 16] (fun v i wr => ∃ k : Nat, k ≤ a.length ∧ i = .int .i64 k ∧ OwnP wr w1.heap.size 144 2 RuE v (minusL (a.take k) b) ∧ Below w1.heap.size w1 wr) (fun _ i _ => a.length - (intOf i).toNat)
  case atStart => exact ⟨0, Nat.zero_le _, rfl, OwnP.nil, Below.refl _ _⟩
  case round =>
    obtain ⟨k, hk, rfl, hown, hbr⟩ := hrel
    have hsz := hbr.size
    have hB0 : Below w.heap.size w wr := hb1.trans (hbr.mono hs1)
    by_cases hlt : k < a.length
    · obtain ⟨r, hr⟩ : ∃ x, a[k]? = some x := ⟨_, List.getElem?_eq_getElem hlt⟩
      obtain ⟨bb, off, rfl, hbB, hc⟩ := a3 (by rintro rfl; simp at hlt)
      obtain ⟨cs, ⟨rfl, hok⟩, _, hu⟩ := hc k _ hr
      have e0 : wr.cell? ⟨bb, off + k * 2, none⟩ = some (.int .i64 r.1) := (hB0.cell hbB).trans (hu 0 _ rfl)
      have e1 : wr.cell? ⟨bb, off + k * 2 + 1, none⟩ = some (.int .i64 r.2) := (hB0.cell hbB).trans (hu 1 _ rfl)
      have hrok := runs_ok' a none HRA.out r (List.mem_of_getElem? hr)
      unfold runOk at hrok
      have HX := hid (minusL_take (b := b) hr)
      have HLE : Hid ((minusL (a.take (k + 1)) b).length ≤ 900000) := Nat.le_trans (minusL_le a b _) hN
      clear hu hc a3 hr
      go_wp2_with fail
      obtain ⟨wo, rfl⟩ : ∃ wo : World, wo = wr := ⟨_, rfl⟩
      go_loopw [5, 22] (fun v i wq => ∃ (j : Nat) (os : List (Int × Int)) (lo : Int), j ≤ b.length ∧ i = .int .i64 j ∧ OwnP wq w1.heap.size 144 2 RuE v os ∧ Hid (os ++ cutL (b.drop j) lo r.2 = minusL (a.take (k + 1)) b) ∧ (∀ g, v.ownBlock = some g → g ≠ wo.heap.size) ∧
          wq.heap[wo.heap.size]? = some (.cells #[.int .i64 lo, .int .i64 r.2] 144 (0, 0)) ∧ 1 ≤ lo ∧ lo ≤ 1099511627777 ∧ wo.heap.size < wq.heap.size ∧ Below w1.heap.size w1 wq) (fun _ i _ => b.length - (intOf i).toNat)
      case atStart => exact ⟨0, _, r.1, Nat.zero_le _, rfl, hown.alloc _, by unfold Hid; rw [HX.out]; simp, fun g hg => Nat.ne_of_lt (hown.lt g hg).2, heap_new rfl, by omega, by omega, by simp, hbr.alloc (by omega) _⟩
      case round =>
        obtain ⟨j, os, lo, hj, rfl, hown, HOS, hne, hg7, hl1, hl2, hsq, hbq⟩ := hrel
        have hBq : Below w.heap.size w wr := hb1.trans (hbq.mono hs1)
        have d0 : wr.cell? ⟨wo.heap.size, 0, none⟩ = some (.int .i64 lo) := cell_cells (i := 0) hg7
        have d1 : wr.cell? ⟨wo.heap.size, 1, none⟩ = some (.int .i64 r.2) := cell_cells (i := 1) hg7
        have hf := cells_frz (i := 0) hg7
        have hnq : wo.heap.size ≠ wr.heap.size := by omega
        by_cases hlj : j < b.length
        · obtain ⟨x, hx⟩ : ∃ x, b[j]? = some x := ⟨_, List.getElem?_eq_getElem hlj⟩
          obtain ⟨bb', off', rfl, hbB', hc⟩ := b3 (by rintro rfl; simp at hlj)
          obtain ⟨cs, ⟨rfl, hok'⟩, _, hu⟩ := hc j _ hx
          have f0 : wr.cell? ⟨bb', off' + j * 2, none⟩ = some (.int .i64 x.1) := (hBq.cell hbB').trans (hu 0 _ rfl)
          have f1 : wr.cell? ⟨bb', off' + j * 2 + 1, none⟩ = some (.int .i64 x.2) := (hBq.cell hbB').trans (hu 1 _ rfl)
          have hxok := runs_ok' b none HRB.out x (List.mem_of_getElem? hx)
          unfold runOk at hxok
          have hcut := cutL_drop hx lo r.2
          clear hu hc b3 hx
          rcases t1 : decide (x.2 < lo)
          · rcases t2 : decide (r.2 < x.1)
            · have hno : ¬ (x.2 < lo ∨ r.2 < x.1) := by simp at t1 t2; omega
              rw [if_neg hno] at hcut
              rcases t3 : decide (lo < x.1)
              · have HO2 : Hid (os ++ cutL (b.drop (j + 1)) (x.2 + 1) r.2 = minusL (a.take (k + 1)) b) := by
                  have h := HOS.out
                  rw [hcut, if_neg (by simpa using t3)] at h; exact h
                clear hcut
                go_wp2_with fail
                have hW := cells_set (i := 0) hg7 (.int .i64 (x.2 + 1))
                have hZ : (wr.setCell ⟨wo.heap.size, 0, none⟩ (.int .i64 (x.2 + 1))).heap.size = wr.heap.size := by simp [World.setCell]
                go_roundw
                case rel => exact ⟨j + 1, os, x.2 + 1, by omega, by go_num, (hown.keep fun g hg => Below.heap_setCell _ _ _ _ (hne g hg)).alloc _, HO2, hne, (heap_old (by omega)).trans (by simpa using hW), by omega, by omega, by rw [World.size_alloc]; omega, (hbq.setCell (p := ⟨wo.heap.size, 0, none⟩) (by show w1.heap.size ≤ wo.heap.size; omega) _).alloc (by omega) _⟩
                case measure => simp [intOf]; omega
              · have HO2 : Hid ((os ++ [(lo, x.1 - 1)]) ++ cutL (b.drop (j + 1)) (x.2 + 1) r.2 = minusL (a.take (k + 1)) b) := by
                  have h := HOS.out
                  rw [hcut, if_pos (by simpa using t3)] at h; unfold Hid; rw [← h]; simp
                have hll : os.length + 1 ≤ 900000 := by have h := congrArg List.length HO2.out; have := HLE.out; simp at h; omega
                have HRE : Hid (RuE (lo, x.1 - 1) [.int .i64 lo, .int .i64 (x.1 - 1)]) := ⟨rfl, ⟨by show _ ≤ lo; omega, by show lo ≤ _; omega⟩, ⟨by show _ ≤ x.1 - 1; omega, by show x.1 - 1 ≤ _; omega⟩⟩
                clear hcut
                go_wp2_with (at_builtin; go_loud (refine wpList_app rfl (.tmp 43) (.tmp 50) _ rfl eiRun (by decide) (fun _ _ h => h.one) rfl ((hown.alloc _).alloc _) rfl (SlP.one (x := (lo, x.1 - 1)) HRE.out rfl _ (by rw [World.size_alloc])) (by simp; omega) (by simp [Big]; omega) (by rw [World.size_alloc, World.size_alloc]; omega) ?_); intro v1 w4 hown4 hgr hob; go_loud (have hb4 : Hid (Below w1.heap.size ((wr.alloc (.cells #[.int .i64 x.1, .int .i64 x.2] 144)).alloc (.cells #[.int .i64 lo, .int .i64 (x.1 - 1)] 144)) w4) := ((Below.refl w1.heap.size _).grown hgr (by rw [World.size_alloc, World.size_alloc]; omega) fun g hg => (hown.lt g hg).1); have hg4 : w4.heap[wo.heap.size]? = some (.cells #[.int .i64 lo, .int .i64 r.2] 144 (0, 0)) := (hgr.block _ (by rw [World.size_alloc, World.size_alloc]; omega) (fun e => hne _ e.symm rfl)).trans ((heap_old (by rw [World.size_alloc]; omega)).trans ((heap_old hsq).trans hg7)); have g0 : w4.cell? ⟨wo.heap.size, 0, none⟩ = some (.int .i64 lo) := cell_cells (i := 0) hg4; have gf := cells_frz (i := 0) hg4; have hg5 : w4.heap[wr.heap.size]? = some (.cells #[.int .i64 x.1, .int .i64 x.2] 144 (0, 0)) := (hgr.block _ (by rw [World.size_alloc, World.size_alloc]; omega) (fun e => by have := (hown.lt _ e.symm).2; omega)).trans ((heap_old (by rw [World.size_alloc]; omega)).trans (heap_new rfl)); have g1 : w4.cell? ⟨wr.heap.size, 1, none⟩ = some (.int .i64 x.2) := cell_cells (i := 1) hg5))
                have hs4 := hb4.out.size
                have hz4 := hgr.size
                rw [World.size_alloc, World.size_alloc] at hz4
                have hne4 : ∀ g, v1.ownBlock = some g → g ≠ wo.heap.size := fun g hg => by
                  rcases hob with h | h
                  · exact hne g (h ▸ hg)
                  · rw [h, World.size_alloc, World.size_alloc] at hg; cases hg; omega
                have hW := cells_set (i := 0) hg4 (.int .i64 (x.2 + 1))
                go_roundw
                case rel => exact ⟨j + 1, _, x.2 + 1, by omega, by go_num, hown4.keep fun g hg => Below.heap_setCell _ _ _ _ (hne4 g hg), HO2, hne4, by simpa using hW, by omega, by omega, by simp [World.setCell]; omega, (((hbq.alloc (by omega) _).alloc (by rw [World.size_alloc]; omega) _).trans hb4.out).setCell (p := ⟨wo.heap.size, 0, none⟩) (by show w1.heap.size ≤ wo.heap.size; omega) _⟩
                case measure => simp [intOf]; omega
            · have HO2 : Hid (os ++ cutL (b.drop (j + 1)) lo r.2 = minusL (a.take (k + 1)) b) := by
                have h := HOS.out
                rw [hcut, if_pos (.inr (by simpa using t2))] at h; exact h
              clear hcut
              go_wp2_with fail
              go_roundw
              case rel => exact ⟨j + 1, os, lo, by omega, by go_num, hown.alloc _, HO2, hne, (heap_old hsq).trans hg7, hl1, hl2, by simp; omega, hbq.alloc (by omega) _⟩
              case measure => simp [intOf]; omega
          · have HO2 : Hid (os ++ cutL (b.drop (j + 1)) lo r.2 = minusL (a.take (k + 1)) b) := by
              have h := HOS.out
              rw [hcut, if_pos (.inl (by simpa using t1))] at h; exact h
            clear hcut
            go_wp2_with fail
            go_roundw
            case rel => exact ⟨j + 1, os, lo, by omega, by go_num, hown.alloc _, HO2, hne, (heap_old hsq).trans hg7, hl1, hl2, by simp; omega, hbq.alloc (by omega) _⟩
            case measure => simp [intOf]; omega
        · obtain rfl : j = b.length := by omega
          have hend := HOS.out
          rw [List.drop_length, cutL] at hend
          rcases t4 : decide (lo ≤ r.2)
          · rw [if_neg (by simpa using t4), List.append_nil] at hend
            have HEN := hid hend
            clear hend
            go_wp2_with fail
            go_roundw
            case rel => exact ⟨k + 1, by omega, by go_num, by rw [← HEN.out]; exact hown, hbq⟩
            case measure => simp [intOf]; omega
          · rw [if_pos (by simpa using t4)] at hend
            have HEN := hid hend
            have hll : os.length + 1 ≤ 900000 := by have h := congrArg List.length hend; have := HLE.out; simp at h; omega
            have HL : Hid (os.length + [(lo, r.2)].length ≤ Few) := by unfold Hid Few; simp; omega
            have HRE : Hid (RuE (lo, r.2) [.int .i64 lo, .int .i64 r.2]) := ⟨rfl, ⟨by show _ ≤ lo; omega, by show lo ≤ _; omega⟩, ⟨by show _ ≤ r.2; omega, by show r.2 ≤ _; omega⟩⟩
            clear hend
            go_wp2_with (at_builtin; go_loud (refine wpList_few rfl (.tmp 62) (.tmp 64) _ rfl eiRun (by decide) (by decide) (fun _ _ h => h.one) rfl (hown.alloc _) rfl (SlP.one (x := (lo, r.2)) HRE.out rfl _ rfl) HL.out (by rw [World.size_alloc]; omega) ?_); intro v1 w4 hown4 hb4 _)
            go_roundw
            case rel => exact ⟨k + 1, by omega, by go_num, by rw [← HEN.out]; exact hown4, (hbq.alloc (by omega) _).trans hb4⟩
            case measure => simp [intOf]; omega
    · obtain rfl : k = a.length := by omega
      rw [List.take_of_length_le (Nat.le_refl _)] at hown
      go_wp2_with fail
      go_ret
      exact ⟨_, rfl, hown.mono hs1, hB0⟩
end Go.Proofs.YtdcmjmcipgadlaaGreat

namespace Go.Proofs.YtdcmjmcipgadlaaGreat
open Go.RowKit
set_option maxRecDepth 100000

/-- The state of the first loop. -/
def OfA (l : List Dt) (w : World) (k : Nat) (wr : World) : Prop :=
  ∃ vs : Nat → Value, Rows4 wr (w.heap.size + 1) w.heap.size 117 2 1 InE vs (fun i => numsL (l.take k) i) ∧ Below w.heap.size w wr

/-- The state of the second loop: array Bq holds the sets of the first k centers. -/
def OfB (l : List Dt) (w1 : World) (k : Nat) (wr : World) : Prop :=
  ∃ ps : Nat → Value, wr.heap[w1.heap.size]? = some (.cells #[ps 0, ps 1, ps 2, ps 3] 120 (0, 0)) ∧
    (∀ j, j < 4 → OwnP wr (w1.heap.size + 1) 144 2 RuE (ps j) (if j < k then ofL (numsL l (j : Int)) else [])) ∧ Below w1.heap.size w1 wr

set_option maxHeartbeats 4000000 in
theorem cof_any (l : List Dt) (vl : Value) (w : World) (h : SlP w w.heap.size 2 DtE vl l) (hR : ∀ d ∈ l, d.right = true) (hN : l.length ≤ 100000) :
    Calls Tryz.prog 81 #[vl] w fun e w' => ∃ v, e = .returned (.tuple #[v, .int .i64 0]) ∧ OwnP w' w.heap.size 79 3 SpE v (ctxOf l) ∧ Below w.heap.size w w' := by
  obtain ⟨A, n, rfl, b1, b2, b3⟩ := h
  unfold Big at b2
  go_enter Tryz.func81, Tryz.ntmps81
  go_wp2_with fail
  go_loopw [12] (fun i wr => ∃ k : Nat, k ≤ l.length ∧ i = .int .i64 k ∧ OfA l w k wr) (fun i _ => l.length - (intOf i).toNat)
  case atStart => exact ⟨0, Nat.zero_le _, rfl, fun _ => .slice none 0 0, Rows4.start (heap_new rfl) (by omega), (Below.refl _ w).alloc (Nat.le_refl _) _⟩
  case round =>
    obtain ⟨k, hk, rfl, vs, hr4, hb⟩ := hrel
    have hsz := hb.size
    have hsz2 : w.heap.size < wr.heap.size := (Array.getElem?_eq_some_iff.1 hr4.arr).1
    have hsz4 : w.heap.size ≠ wr.heap.size := by omega
    by_cases hlt : k < l.length
    · obtain ⟨⟨dc, num⟩, hx⟩ : ∃ x, l[k]? = some x := ⟨_, List.getElem?_eq_getElem hlt⟩
      obtain ⟨b, off, rfl, hbB, hc⟩ := b3 (by rintro rfl; simp at hlt)
      obtain ⟨cs, ⟨rfl, hok⟩, _, hu⟩ := hc k _ hx
      have e0 : wr.cell? ⟨b, off + k * 2, none⟩ = some (.int .i64 dc) := (hb.cell hbB).trans (hu 0 _ rfl)
      have e1 : wr.cell? ⟨b, off + k * 2 + 1, none⟩ = some (.int .i64 num) := (hb.cell hbB).trans (hu 1 _ rfl)
      have hri := hR _ (List.mem_of_getElem? hx)
      have hbd : (0 ≤ dc ∧ dc < 4) ∧ 1 ≤ num ∧ num ≤ 1099511627776 := by simpa [Dt.right, and_assoc] using hri
      have HRI := hid hri
      have HR4 := hid hr4
      obtain ⟨d, rfl⟩ : ∃ d : Nat, dc = (d : Int) := ⟨dc.toNat, by omega⟩
      have hd4 : d < 4 := by omega
      have hdi : (d : Int) < 4 := by omega
      have HPD : Hid ((fun i : Nat => numsL (l.take (k + 1)) i) = fun i => if i = d then numsL (l.take k) d ++ [num] else numsL (l.take k) i) := by
        unfold Hid; funext i
        rw [numsL_take hx]
        by_cases e : i = d
        · subst e; rw [if_pos rfl, if_pos rfl]
        · rw [if_neg e, if_neg (by show ¬ (d : Int) = (i : Int); omega), List.append_nil]
      have HL : Hid ((numsL (l.take k) d).length + [num].length ≤ Few) := by have := numsL_len (l.take k) d; rw [List.length_take] at this; unfold Hid Few; simp; omega
      have HRE : Hid (InE num [.int .i64 num]) := ⟨rfl, hok.n⟩
      have hbp : wr.cell? ⟨w.heap.size, d, none⟩ = some (vs d) := HR4.out.at hd4
      have HLT := hid ((HR4.out.own d hd4).lt)
      clear hu hx hc b3 hok hr4 hri hR
      go_upto_region 7 with (go_at_call 113; refine (dright_any ⟨d, num⟩ _).mono ?_; rw [HRI.out]; rintro e wd ⟨rfl, hbd'⟩; have hsd := hbd'.size; simp only [World.size_alloc] at hsd)
      have HB1 : Hid (Below wr.heap.size wr wd) := ((Below.refl _ wr).alloc (Nat.le_refl _) _).trans (hbd'.mono (by simp))
      have hx0 : wd.cell? ⟨wr.heap.size, 0, none⟩ = some (.int .i64 (d : Int)) := by rw [hbd'.cell (p := ⟨wr.heap.size, 0, none⟩) (by simp)]; simp
      have hx1 : wd.cell? ⟨wr.heap.size, 1, none⟩ = some (.int .i64 num) := by rw [hbd'.cell (p := ⟨wr.heap.size, 1, none⟩) (by simp)]; simp
      have hxb : wd.heap[wr.heap.size]? = some (.cells #[.int .i64 (d : Int), .int .i64 num] 47 (0, 0)) := (hbd'.block wr.heap.size (by simp)).trans (heap_new rfl)
      have HXB := hid hxb
      have hbp1 : wd.cell? ⟨w.heap.size, d, none⟩ = some (vs d) := (HB1.out.cell (p := ⟨w.heap.size, d, none⟩) hsz2).trans hbp
      have HR5 := hid (HR4.out.grow HB1.out)
      have hwd1 : w.heap.size < wd.heap.size := by omega
      have hwd2 : w.heap.size ≠ wd.heap.size := by omega
      have hwd3 : wr.heap.size < wd.heap.size := by omega
      have hwd4 : wr.heap.size ≠ wd.heap.size := by omega
      have HBW := hid (hb.trans (HB1.out.mono hsz))
      clear hbp hxb hbd' e0 e1
      go_wp2_with fail
      refine wp_region_pop_n (S := fun w' => w'.cell? ⟨wr.heap.size, 0, none⟩ = some (.int .i64 (d : Int)) ∧ w'.cell? ⟨wr.heap.size, 1, none⟩ = some (.int .i64 num) ∧ w'.cell? ⟨w.heap.size, d, none⟩ = some (vs d)) 11 (by kernel_rfl) (by kernel_rfl) ?_
      simp only [List.take_succ_cons, List.take_zero, List.drop_succ_cons, List.drop_zero]
      have hHeld : (fun w' : World => w'.cell? ⟨wr.heap.size, 0, none⟩ = some (.int .i64 (d : Int)) ∧ w'.cell? ⟨wr.heap.size, 1, none⟩ = some (.int .i64 num) ∧ w'.cell? ⟨w.heap.size, d, none⟩ = some (vs d)) wd.drew := by go_keep
      refine wpAnyH_take (i := 0) (oi := _) (v := ?v0) rfl (by kernel_rfl) (by kernel_rfl) (by kernel_rfl) (fun _ _ _ h => h) (Or.inl ⟨by rfl, ?h0⟩) (by assumption) ?_
      case h0 => (intro w hSw; (try dsimp only at hSw); go_simp; (try with_reducible rfl))
      simp only [Act.put, List.setIfInBounds_toArray]
      refine wpAnyH_take (i := 1) (oi := _) (v := ?v1) rfl (by kernel_rfl) (by kernel_rfl) (by kernel_rfl) (fun _ _ _ h => h) (Or.inl ⟨by rfl, ?h1⟩) (by assumption) ?_
      case h1 => (intro w hSw; (try dsimp only at hSw); go_simp; (try with_reducible rfl))
      simp only [Act.put, List.setIfInBounds_toArray]
      refine wpAnyH_take (i := 2) (oi := _) (v := ?v2) rfl (by kernel_rfl) (by kernel_rfl) (by kernel_rfl) (fun _ _ _ h => h) (Or.inl ⟨by rfl, ?h2⟩) (by assumption) ?_
      case h2 => (intro w hSw; (try dsimp only at hSw); go_simp; (try with_reducible rfl))
      simp only [Act.put, List.setIfInBounds_toArray]
      refine wpAnyH_take (i := 3) (oi := _) (v := ?v3) rfl (by kernel_rfl) (by kernel_rfl) (by kernel_rfl) (fun _ _ _ h => h) (Or.inl ⟨by rfl, ?h3⟩) (by assumption) ?_
      case h3 => (intro w hSw; (try dsimp only at hSw); go_simp; (try with_reducible rfl))
      simp only [Act.put, List.setIfInBounds_toArray]
      refine wpAnyH_take (i := 4) (oi := _) (v := ?v4) rfl (by kernel_rfl) (by kernel_rfl) (by kernel_rfl) (fun _ _ _ h => h) (Or.inl ⟨by rfl, ?h4⟩) (by assumption) ?_
      case h4 => (intro w hSw; (try dsimp only at hSw); go_simp; (try with_reducible rfl))
      simp only [Act.put, List.setIfInBounds_toArray]
      refine wpAnyH_take (i := 5) (oi := _) (v := ?v5) rfl (by kernel_rfl) (by kernel_rfl) (by kernel_rfl) (fun _ _ _ h => h) (Or.inl ⟨by rfl, ?h5⟩) (by assumption) ?_
      case h5 => (intro w hSw; (try dsimp only at hSw); go_simp; (try with_reducible rfl))
      simp only [Act.put, List.setIfInBounds_toArray]
      refine wpAnyH_take (i := 6) (oi := _) (v := ?v6) rfl (by kernel_rfl) (by kernel_rfl) (by kernel_rfl) (fun _ _ _ h => h) (Or.inl ⟨by rfl, ?h6⟩) (by assumption) ?_
      case h6 => (intro w hSw; (try dsimp only at hSw); go_simp; (try with_reducible rfl))
      simp only [Act.put, List.setIfInBounds_toArray]
      refine wpAnyH_take (i := 7) (oi := _) (v := ?v7) rfl (by kernel_rfl) (by kernel_rfl) (by kernel_rfl) (fun _ _ _ h => h) (Or.inl ⟨by rfl, ?h7⟩) (by assumption) ?_
      case h7 => (intro w hSw; (try dsimp only at hSw); go_simp; (try with_reducible rfl))
      simp only [Act.put, List.setIfInBounds_toArray]
      refine wpAnyH_ready (rs := [8]) (by kernel_rfl) (by simp) ?_
      refine AllReadyH.cons (o := _) rfl (fun K hK => ?_) AllReadyH.nil
      go_simp
      refine hK.out _ _ ?_ (fun hHeld8 => ?_)
      · go_keep
      clear hK K
      simp only [List.setIfInBounds_toArray]
      refine wpAnyH_ready (rs := [9]) (by kernel_rfl) (by simp) ?_
      refine AllReadyH.cons (o := _) rfl (fun K hK => ?_) AllReadyH.nil
      (refine step_few4 (v := vs d) rfl (.tmp 24) (.tmp 27) _ rfl eiInt64 (by decide) (by decide) (fun _ _ h => h.one) rfl (((HR5.out.own d hd4).grow ((Below.refl _ wd).alloc (Nat.le_refl _) _)).drew) rfl (SlP.one (x := num) HRE.out rfl _ (by simp)) HL.out (by simp; omega) ?_; intro v1 w4 hown4 hb4 hg4 hv4; have hsh4 := OwnP.shape hown4; simp only [List.length_append, List.length_singleton] at hsh4; obtain ⟨A1, c1, hv1⟩ := hsh4; subst hv1; have hg4h : Hid (w4.heap[w.heap.size]? = some (.cells #[vs 0, vs 1, vs 2, vs 3] 117 (0, 0))) := (hg4.block w.heap.size (by simp; omega) (fun e => by have := HLT.out _ e.symm; omega)).trans ((heap_old hwd1).trans HR5.out.arr); have hc4 : w4.cell? ⟨w.heap.size, d, none⟩ = some (vs d) := (cell_cells hg4h.out).trans (four_get vs hd4); have hf4 : w4.frozen? ⟨w.heap.size, d, none⟩ = false := cells_frz hg4h.out; have hx3 := (hg4.block wr.heap.size (by simp; omega) (fun e => by have := HLT.out _ e.symm; omega)).trans ((heap_old hwd3).trans HXB.out); have hx4 : Hid (w4.cell? ⟨wr.heap.size, 0, none⟩ = some (.int .i64 (d : Int)) ∧ w4.cell? ⟨wr.heap.size, 1, none⟩ = some (.int .i64 num) ∧ w4.cell? ⟨w.heap.size, d, none⟩ = some (vs d)) := ⟨(cell_cells (i := 0) hx3).trans rfl, (cell_cells (i := 1) hx3).trans rfl, hc4⟩; clear hx3)
      refine hK.out _ _ ?_ (fun hHeld9 => ?_)
      · exact hx4.out
      clear hK K
      simp only [Act.put, List.setIfInBounds_toArray]
      refine wpAnyH_take (i := 10) (oi := _) (v := ?v10) rfl (by kernel_rfl) (by kernel_rfl) (by kernel_rfl) (fun _ _ _ h => h) (Or.inl ⟨by rfl, ?h10⟩) (by assumption) ?_
      case h10 => (intro w hSw; (try dsimp only at hSw); go_simp; (try with_reducible rfl))
      simp only [Act.put, List.setIfInBounds_toArray]
      refine wpAnyH_done (by kernel_rfl) ?_ _
      change wpList _ _ _ _ _ _
      go_wp2_with fail
      go_roundw
      case rel =>
        refine ⟨k + 1, by omega, by go_num, fun i => if i = d then .slice A1 ((numsL (l.take k) d).length + 1) c1 else vs i, ?_, ?_⟩
        · rw [HPD.out]
          exact Rows4.put (w := (wd.alloc (.cells #[.int .i64 num] 2)).drew) ((HR5.out.grow ((Below.refl _ _).alloc (Nat.le_refl _) _)).same rfl) hd4 hown4 hg4 hv4
        · exact (((HBW.out.alloc (by omega) _).drew.trans (hb4.mono (by omega))).setCell (Nat.le_refl _) _)
      case measure => simp [intOf]; omega
    · obtain rfl : k = l.length := by omega
      rw [List.take_of_length_le (Nat.le_refl _)] at hr4
      have c0 : wr.cell? ⟨w.heap.size, 0, none⟩ = some (vs 0) := hr4.at (by omega)
      have c1 : wr.cell? ⟨w.heap.size, 1, none⟩ = some (vs 1) := hr4.at (by omega)
      have c2 : wr.cell? ⟨w.heap.size, 2, none⟩ = some (vs 2) := hr4.at (by omega)
      have c3 : wr.cell? ⟨w.heap.size, 3, none⟩ = some (vs 3) := hr4.at (by omega)
      have HR := hid hr4
      have HRR := hid hR
      clear hr4 b3 hR
      go_wp2_with fail
      obtain ⟨w1, rfl⟩ : ∃ w1 : World, w1 = wr := ⟨_, rfl⟩
      go_loopw [32] (fun i wr => ∃ k : Nat, k ≤ 4 ∧ i = .int .i64 k ∧ OfB l w1 k wr) (fun i _ => 4 - (intOf i).toNat)
      case atStart => exact ⟨0, by omega, rfl, fun _ => .slice none 0 0, heap_new rfl, fun j _ => by rw [if_neg (Nat.not_lt_zero _)]; exact OwnP.nil, (Below.refl _ _).alloc (Nat.le_refl _) _⟩
      case round =>
        obtain ⟨k, hk, rfl, ps, hpa, hpo, hbi⟩ := hrel
        have hsi := hbi.size
        have hsi2 : w1.heap.size < wr.heap.size := (Array.getElem?_eq_some_iff.1 hpa).1
        by_cases hk4 : k < 4
        · have hki : (k : Int) < 4 := by omega
          have hidx : ∀ w, (Instr.index 117 (.agg #[vs 0, vs 1, vs 2, vs 3]) (.int .i64 (k : Int))).run Tryz.prog w = .ok (vs k) w := fun w => by
            match k, hk4 with
            | 0, _ => rfl
            | 1, _ => rfl
            | 2, _ => rfl
            | 3, _ => rfl
          have hnl := numsL_len l k
          have HSL : Hid (SlP wr wr.heap.size 1 InE (vs k) (numsL l k)) := (HR.out.sl hk4 (by show (numsL l k).length ≤ Big; unfold Big; omega)).imp hbi hsi fun _ _ _ h => h
          have HNB : Hid (∀ x ∈ numsL l k, numB x = true) := fun x hx => by
            unfold numsL at hx
            obtain ⟨d, hd, rfl⟩ := List.mem_map.1 hx
            have h1 := HRR.out d (List.mem_filter.1 hd).1
            simp [Dt.right] at h1
            simp [numB]; omega
          have HPA := hid hpa
          have HPO := hid hpo
          have hpc : wr.cell? ⟨w1.heap.size, k, none⟩ = some (ps k) := (cell_cells hpa).trans (four_get ps hk4)
          clear hpa hpo
          go_wp2_with fail
          refine (sof_any (numsL l k) (vs k) wr HSL.out HNB.out (by omega)).mono ?_
          rintro e w2 ⟨v2, rfl, ho2, hb2⟩
          obtain ⟨A2, n2, rfl⟩ := ho2.shape
          have hp2 := (hb2.block w1.heap.size hsi2).trans HPA.out
          have hc2 : w2.cell? ⟨w1.heap.size, k, none⟩ = some (ps k) := (cell_cells hp2).trans (four_get ps hk4)
          have hf2 : w2.frozen? ⟨w1.heap.size, k, none⟩ = false := cells_frz hp2
          have HP2 := hid hp2
          have HO2 := hid ho2
          clear hp2 ho2 hpc hidx
          go_wp2_with fail
          go_roundw
          case rel =>
            refine ⟨k + 1, by omega, by go_num, fun j => if j = k then .slice A2 (ofL (numsL l k)).length n2 else ps j, ?_, fun j hj => ?_, (hbi.trans (hb2.mono hsi)).setCell (Nat.le_refl _) _⟩
            · rw [cells_set HP2.out, four_set ps hk4]
            · by_cases e : j = k
              · subst e
                simp only [if_true, if_pos (Nat.lt_succ_self j)]
                exact (HO2.out.mono (by omega)).setOther (by simp) _
              · have e2 : (if j < k + 1 then ofL (numsL l (j : Int)) else []) = (if j < k then ofL (numsL l (j : Int)) else []) := by
                  by_cases e3 : j < k
                  · rw [if_pos e3, if_pos (by omega)]
                  · rw [if_neg e3, if_neg (by omega)]
                simp only [if_neg e]
                rw [e2]
                exact ((HPO.out j hj).grow hb2).setOther (by simp) _
          case measure => simp [intOf]; omega
        · obtain rfl : k = 4 := by omega
          have d0 : wr.cell? ⟨w1.heap.size, 0, none⟩ = some (ps 0) := cell_cells (i := 0) hpa
          have d1 : wr.cell? ⟨w1.heap.size, 1, none⟩ = some (ps 1) := cell_cells (i := 1) hpa
          have d2 : wr.cell? ⟨w1.heap.size, 2, none⟩ = some (ps 2) := cell_cells (i := 2) hpa
          have d3 : wr.cell? ⟨w1.heap.size, 3, none⟩ = some (ps 3) := cell_cells (i := 3) hpa
          have HOL : ∀ j : Nat, (ofL (numsL l (j : Int))).length ≤ 100001 := fun j => by have := ofL_len (numsL l (j : Int)); have := numsL_len l (j : Int); omega
          have HSP : Hid (∀ j, j < 4 → SlP wr wr.heap.size 2 RuE (ps j) (ofL (numsL l (j : Int)))) := fun j hj => by
            have := hpo j hj
            rw [if_pos hj] at this
            exact this.sl (by have := HOL j; unfold Big; omega)
          have HOLH := hid HOL
          clear hpa hpo HOL
          go_wp2_with fail
          refine (whole_any (fun j => ofL (numsL l (j : Int))) ps wr HSP.out (fun j _ => by have := HOLH.out j; show (ofL _).length ≤ _; omega)).mono ?_
          rintro e w2 ⟨v2, rfl, ho2, hb2⟩
          go_wp2_with fail
          go_ret2
          exact ⟨_, rfl, ho2.mono (by omega), (hb.trans (hbi.mono hsz)).trans (hb2.mono (by omega))⟩
end Go.Proofs.YtdcmjmcipgadlaaGreat

namespace Go.Proofs.YtdcmjmcipgadlaaGreat
open Go.RowKit
set_option maxRecDepth 100000

/-- What tree.Dots hands back. -/
def RetDots (t : Tr) (w : World) (e : Ending) (w' : World) : Prop :=
  ∃ v n, e = .returned (.tuple #[v, .int .i64 n]) ∧ n = (if t.right 5 then 0 else 1) ∧ OwnP w' w.heap.size 79 3 SpE v (if t.right 5 then ctxOf t.dots else []) ∧ Below w.heap.size w w'
set_option maxHeartbeats 1000000 in
theorem tdots_any (t : Tr) (ve vk : Value) (w : World) (h : t.rd w w.heap.size ve vk) (hN : t.sz ≤ 90000) :
    Calls Tryz.prog 80 #[.agg #[ve, vk]] w (RetDots t w) := by
  have HC : Hid (∀ w', Below w.heap.size w w' → t.rd w' w'.heap.size ve vk) := fun w' hb => rd_below hb hb.size _ _ _ h
  have hdl := dots_len t
  obtain ⟨A3, n3, A4, n4, rfl, rfl⟩ := rd_shape h
  have hb0 := (Below.refl w.heap.size w).alloc (Nat.le_refl _) (.cells #[.slice A3 t.es.length n3, .slice A4 t.ks.length n4] 25)
  clear h
  go_enter Tryz.func80, Tryz.ntmps80
  go_wp2_with fail
  refine (tRight_any t _ _ _ (HC.out _ hb0)).mono ?_
  rintro e w1 ⟨rfl, hb1⟩
  have hs1 := hb1.size
  simp only [World.size_alloc] at hs1
  have hB1 : Below w.heap.size w w1 := hb0.trans (hb1.mono (by simp))
  have c0 : w1.cell? ⟨w.heap.size, 0, none⟩ = some (.slice A3 t.es.length n3) := by rw [hb1.cell (p := ⟨w.heap.size, 0, none⟩) (by simp)]; simp
  have c1 : w1.cell? ⟨w.heap.size, 1, none⟩ = some (.slice A4 t.ks.length n4) := by rw [hb1.cell (p := ⟨w.heap.size, 1, none⟩) (by simp)]; simp
  cases hr : t.right 5
  · have HR := hid hr
    clear hr
    go_wp2_with fail
    go_ret2
    exact ⟨_, _, rfl, by rw [HR.out]; rfl, by rw [HR.out]; exact OwnP.nil, hB1⟩
  · have HR := hid hr
    have HD := hid (right_dots t 5 hr)
    clear hr
    go_wp2_with fail
    refine (tall_any t _ _ _ (HC.out _ hB1) (by omega)).mono ?_
    rintro e w2 ⟨v2, rfl, ho2, hb2⟩
    have hs2 := hb2.size
    have hsl := ho2.sl (by unfold Big; omega)
    clear ho2
    go_wp2_with fail
    refine (cof_any t.dots v2 w2 hsl HD.out (by omega)).mono ?_
    rintro e w3 ⟨v3, rfl, ho3, hb3⟩
    go_wp2_with fail
    go_ret2
    exact ⟨_, _, rfl, by rw [HR.out]; rfl, by rw [HR.out]; exact ho3.mono (by omega), (hB1.trans (hb2.mono (by omega))).trans (hb3.mono (by omega))⟩

theorem chk_eq {t : Tr} (h : t.right 5 = true) (d : Dt) : cHas (ctxOf t.dots) d = hasC (ctxOf t.dots) d := cHas_eq (apart_ctxOf (right_dots t 5 h)) d

/-- flag.Check's answer: 0 where a change may be made, else 1. -/
def chkI (t : Tr) (d : Dt) : Int := if chkT t d then 0 else 1
set_option maxHeartbeats 2000000 in
theorem fcheck_any (t : Tr) (d : Dt) (ve vk : Value) (w : World) (h : t.rd w w.heap.size ve vk) (hN : t.sz ≤ 90000) :
    Calls Tryz.prog 79 #[.agg #[ve, vk], .agg #[.int .i64 d.dc, .int .i64 d.n]] w fun e w' => e = .returned (.int .i64 (chkI t d)) ∧ Below w.heap.size w w' := by
  have HC : Hid (∀ w', Below w.heap.size w w' → t.rd w' w'.heap.size ve vk) := fun w' hb => rd_below hb hb.size _ _ _ h
  have hcl : (ctxOf t.dots).length ≤ 900000 := by have := ctxOfK_len t.dots 4; have := dots_len t; unfold ctxOf; omega
  have HCL := hid hcl
  obtain ⟨A3, n3, A4, n4, rfl, rfl⟩ := rd_shape h
  have hb0 := ((Below.refl w.heap.size w).alloc (Nat.le_refl _) (.cells #[.slice A3 t.es.length n3, .slice A4 t.ks.length n4] 25)).alloc (by simp) (.cells #[.int .i64 d.dc, .int .i64 d.n] 47)
  clear h hcl
  go_enter Tryz.func79, Tryz.ntmps79
  go_wp2_with fail
  refine (tdots_any t _ _ _ (HC.out _ hb0) hN).mono ?_
  rintro e w1 ⟨v1, n1, rfl, hn1, ho1, hb1⟩
  have hs1 := hb1.size
  simp only [World.size_alloc] at hs1
  have hB1 : Below w.heap.size w w1 := hb0.trans (hb1.mono (by simp; omega))
  have c0 : w1.cell? ⟨w.heap.size + 1, 0, none⟩ = some (.int .i64 d.dc) := by rw [hb1.cell (p := ⟨w.heap.size + 1, 0, none⟩) (by simp)]; simp
  have c1 : w1.cell? ⟨w.heap.size + 1, 1, none⟩ = some (.int .i64 d.n) := by rw [hb1.cell (p := ⟨w.heap.size + 1, 1, none⟩) (by simp)]; simp
  cases hr : t.right 5
  · have HR : Hid (chkT t d = false) := by unfold Hid chkT; rw [hr]; rfl
    rw [hr] at hn1
    obtain rfl : n1 = 1 := hn1
    clear hr ho1
    go_wp2_with fail
    go_ret
    exact ⟨ret_int (by rw [chkI, HR.out]; rfl), hB1⟩
  rw [hr] at hn1 ho1
  obtain rfl : n1 = 0 := hn1
  simp only [if_true] at ho1
  have hsl := ho1.sl (by have := HCL.out; unfold Big; omega)
  have HSL := hid hsl
  cases hd : d.right
  · have HR : Hid (chkT t d = false) := by unfold Hid chkT; rw [hr, hd]; rfl
    have HD := hid hd
    clear hr ho1 hsl hd
    go_wp2_with (go_at_call 113; refine (dright_any d _).mono ?_; rw [HD.out]; rintro e w2 ⟨rfl, hb2⟩)
    go_ret
    exact ⟨ret_int (by rw [chkI, HR.out]; rfl), hB1.trans (hb2.mono (by omega))⟩
  · have HR : Hid (chkT t d = !cHas (ctxOf t.dots) d) := by unfold Hid chkT; rw [hr, hd, chk_eq hr]; rfl
    have HD := hid hd
    clear hr ho1 hsl hd
    go_wp2_with fail
    refine (dright_any d _).mono ?_
    rw [HD.out]
    rintro e w2 ⟨rfl, hb2⟩
    have hs2 := hb2.size
    have d0 : w2.cell? ⟨w.heap.size + 1, 0, none⟩ = some (.int .i64 d.dc) := (hb2.cell (p := ⟨w.heap.size + 1, 0, none⟩) (by show w.heap.size + 1 < _; omega)).trans c0
    have d1 : w2.cell? ⟨w.heap.size + 1, 1, none⟩ = some (.int .i64 d.n) := (hb2.cell (p := ⟨w.heap.size + 1, 1, none⟩) (by show w.heap.size + 1 < _; omega)).trans c1
    go_wp2_with fail
    refine (chas_any (ctxOf t.dots) d v1 w2 (HSL.out.imp hb2 hs2 fun _ _ _ h => h) HCL.out).mono ?_
    rintro e w3 ⟨rfl, hb3⟩
    have hB3 := (hB1.trans (hb2.mono (by omega))).trans (hb3.mono (show w.heap.size ≤ _ by omega))
    generalize cHas (ctxOf t.dots) d = q at *
    cases q
    all_goals
      go_wp2_with fail
      go_ret
      exact ⟨ret_int (by rw [chkI, HR.out]; rfl), hB3⟩
end Go.Proofs.YtdcmjmcipgadlaaGreat

namespace Go.Proofs.YtdcmjmcipgadlaaGreat
open Go.RowKit
set_option maxRecDepth 100000

/-- The call hands back what is known, in blocks of its own, and an error's number. -/
def RetCE (w : World) (t : Tr) (c : List Sp) (k : Int) (e : Ending) (w' : World) : Prop :=
  ∃ ve vk vc, e = .returned (.tuple #[.agg #[ve, vk, vc], .int .i64 k]) ∧ t.rda w' (fun b => w.heap.size ≤ b ∧ b < w'.heap.size) ve vk ∧ SlA w' (fun b => w.heap.size ≤ b ∧ b < w'.heap.size) 3 SpE vc c ∧ Below w.heap.size w w'
theorem chkT_right {t : Tr} {d : Dt} (h : chkT t d = true) : d.right = true := by
  unfold chkT at h; simp at h; exact h.1.2
theorem chkT_tree {t : Tr} {d : Dt} (h : chkT t d = true) : t.right 5 = true := by
  unfold chkT at h; simp at h; exact h.1.1
theorem SlA.one {α : Type} {w : World} {ok : Nat → Prop} {sz n : Nat} {E : α → List Value → Prop} {x : α} {cs : List Value} {e : TypeId} {z : Nat × Nat} (hE : E x cs) (hl : cs.length = sz) (h : w.heap[n]? = some (.cells cs.toArray e z)) (ho : ok n) :
    SlA w ok sz E (.slice (some ⟨n, 0, none⟩) 1 1) [x] := by
  refine ⟨_, 1, rfl, Nat.le_refl _, by simp [Big], fun _ => ⟨_, 0, rfl, ho, fun j y hy => ?_⟩⟩
  match j, hy with
  | 0, hy =>
    simp at hy; subst hy
    exact ⟨cs, hE, hl, fun i u hi => by rw [cell_cells h]; simpa using hi⟩
theorem En.Ok.mk' {d : Dt} {n : Int} (hd : d.Ok) (hn : I64 n) : En.Ok ⟨d.dc, d.n, ByteArray.empty, n⟩ := ⟨hd.dc, hd.n, hn, by simp [Big]⟩
end Go.Proofs.YtdcmjmcipgadlaaGreat

namespace Go.Proofs.YtdcmjmcipgadlaaGreat
open Go.RowKit
set_option maxRecDepth 100000

theorem ctxOf_len (l : List Dt) : (ctxOf l).length ≤ 4 * (l.length + 1) := ctxOfK_len l 4
theorem ctxBy_len (a b : List Sp) (how : Int) : (ctxBy a b how).length ≤ 4 * (2 * a.length + 2 * b.length + 1) := ctxByK_len a b how 4
theorem right_one {d : Dt} (h : d.right = true) : ∀ x ∈ [d], x.right = true := fun x hx => by simp at hx; subst hx; exact h
/-- What a change of a flag has seen. -/
def seenC (t : Tr) (d : Dt) : List Sp := ctxBy (ctxOf t.dots) (ctxOf [d]) 0
theorem seenC_len (t : Tr) (d : Dt) : (seenC t d).length ≤ 4 * (8 * t.sz + 30) := by
  have h1 := ctxBy_len (ctxOf t.dots) (ctxOf [d]) 0
  have h2 := ctxOf_len t.dots
  have h3 := ctxOf_len [d]
  have h4 := dots_len t
  unfold seenC
  simp at h3
  omega

set_option maxHeartbeats 2000000 in
theorem seen_any (t : Tr) (d : Dt) (ve vk : Value) (w : World) (h : t.rd w w.heap.size ve vk) (hN : t.sz ≤ 4000) (hr : t.right 5 = true) (hd : d.right = true) (ho : d.Ok) :
    Calls Tryz.prog 96 #[.agg #[ve, vk], .agg #[.int .i64 d.dc, .int .i64 d.n]] w (RetO w 79 3 (fun _ => SpE) (seenC t d)) := by
  have HC : Hid (∀ w', Below w.heap.size w w' → t.rd w' w'.heap.size ve vk) := fun w' hb => rd_below hb hb.size _ _ _ h
  have hdl := dots_len t
  have h2 := ctxOf_len t.dots
  have h3 := ctxOf_len [d]
  simp only [List.length_singleton] at h3
  have HAA := hid (apart_ctxOf (right_dots t 5 hr))
  have HAB := hid (apart_ctxOf (right_one hd))
  have HDR := hid (right_one hd)
  obtain ⟨A3, n3, A4, n4, rfl, rfl⟩ := rd_shape h
  have hb0 := ((Below.refl w.heap.size w).alloc (Nat.le_refl _) (.cells #[.slice A3 t.es.length n3, .slice A4 t.ks.length n4] 25)).alloc (by simp) (.cells #[.int .i64 d.dc, .int .i64 d.n] 47)
  clear h
  go_enter Tryz.func96, Tryz.ntmps96
  go_wp2_with fail
  refine (tdots_any t _ _ _ (HC.out _ hb0) (by omega)).mono ?_
  rintro e w1 ⟨v1, n1, rfl, hn1, ho1, hb1⟩
  rw [hr] at ho1 hn1
  obtain rfl : n1 = 0 := hn1
  rw [if_pos rfl] at ho1
  have hs1 := hb1.size
  simp only [World.size_alloc] at hs1
  have hB1 : Below w.heap.size w w1 := hb0.trans (hb1.mono (by simp; omega))
  have c0 : w1.cell? ⟨w.heap.size + 1, 0, none⟩ = some (.int .i64 d.dc) := by rw [hb1.cell (p := ⟨w.heap.size + 1, 0, none⟩) (by simp)]; simp
  have c1 : w1.cell? ⟨w.heap.size + 1, 1, none⟩ = some (.int .i64 d.n) := by rw [hb1.cell (p := ⟨w.heap.size + 1, 1, none⟩) (by simp)]; simp
  have HO1 := hid ho1
  clear hr hd ho1
  go_wp2_with fail
  refine (cof_any [d] _ _ (SlP.oneB (E := DtE) (x := d) (cs := [.int .i64 d.dc, .int .i64 d.n]) ⟨rfl, ho⟩ rfl _ rfl (by simp)) HDR.out (by simp)).mono ?_
  rintro e w2 ⟨v2, rfl, ho2, hb2⟩
  have hs2 := hb2.size
  simp only [World.size_alloc] at hs2
  have hb2' : Below w1.heap.size w1 w2 := ((Below.refl _ w1).alloc (Nat.le_refl _) _).trans (hb2.mono (by simp))
  have hsl1 := (HO1.out.grow hb2').sl (by unfold Big; omega)
  have hsl2 := ho2.sl (by unfold Big; omega)
  have H1 := hid hsl1
  have H2 := hid hsl2
  clear hsl1 hsl2 ho2
  go_wp2_with fail
  refine (cunion_any (ctxOf t.dots) (ctxOf [d]) v1 v2 w2 H1.out H2.out HAA.out HAB.out (by omega) (by omega)).mono ?_
  rintro e w3 ⟨v3, rfl, ho3, hb3⟩
  go_wp2_with fail
  go_ret
  exact ⟨_, rfl, ho3.mono (by omega), (hB1.trans (hb2'.mono (by omega))).trans (hb3.mono (by omega))⟩

/-- flag.On's answer. -/
def onB (t : Tr) : Bool := t.right 5 && decide (0 < t.es.length)
theorem fon_any (t : Tr) (w : World) (ve vk : Value) (h : t.rd w w.heap.size ve vk) :
    Calls Tryz.prog 58 #[.agg #[ve, vk]] w fun e w' => e = .returned (.bool (onB t)) ∧ Below w.heap.size w w' := by
  have HC : Hid (∀ w', Below w.heap.size w w' → t.rd w' w'.heap.size ve vk) := fun w' hb => rd_below hb hb.size _ _ _ h
  have hfit := fit_rd _ _ _ h
  have hel : t.es.length ≤ 140737488355328 := by obtain ⟨es, ks⟩ := t; exact hfit.1
  obtain ⟨A3, n3, A4, n4, rfl, rfl⟩ := rd_shape h
  have hb0 := (Below.refl w.heap.size w).alloc (Nat.le_refl _) (.cells #[.slice A3 t.es.length n3, .slice A4 t.ks.length n4] 25)
  clear h hfit
  go_enter Tryz.func58, Tryz.ntmps58
  go_wp2_with fail
  refine (tRight_any t _ _ _ (HC.out _ hb0)).mono ?_
  rintro e w1 ⟨rfl, hb1⟩
  have hs1 := hb1.size
  simp only [World.size_alloc] at hs1
  have hB1 : Below w.heap.size w w1 := hb0.trans (hb1.mono (by simp))
  have c0 : w1.cell? ⟨w.heap.size, 0, none⟩ = some (.slice A3 t.es.length n3) := by rw [hb1.cell (p := ⟨w.heap.size, 0, none⟩) (by simp)]; simp
  cases hr : t.right 5
  · have HR : Hid (onB t = false) := by unfold Hid onB; rw [hr]; rfl
    clear hr
    go_wp2_with fail
    go_ret
    exact ⟨ret_bool HR.out.symm, hB1⟩
  · have HR : Hid (onB t = decide (0 < t.es.length)) := by unfold Hid onB; rw [hr]; rfl
    clear hr
    go_wp2_with fail
    go_ret
    exact ⟨ret_bool HR.out.symm, hB1⟩

/-- What flag.Disable knows. -/
def disC (t : Tr) (d : Dt) : List Sp := if chkT t d then seenC t d else []
set_option maxHeartbeats 4000000 in
theorem fdisable_any (t : Tr) (d : Dt) (ve vk : Value) (w : World) (h : t.rd w w.heap.size ve vk) (hN : t.sz ≤ 4000) (hd : d.Ok) :
    Calls Tryz.prog 56 #[.agg #[ve, vk], .agg #[.int .i64 d.dc, .int .i64 d.n]] w (RetCE w (.mk [] []) (disC t d) (chkI t d)) := by
  have HC : Hid (∀ w', Below w.heap.size w w' → t.rd w' w'.heap.size ve vk) := fun w' hb => rd_below hb hb.size _ _ _ h
  obtain ⟨A3, n3, A4, n4, rfl, rfl⟩ := rd_shape h
  have hb0 := (((Below.refl w.heap.size w).alloc (Nat.le_refl _) (.cells #[.slice A3 t.es.length n3, .slice A4 t.ks.length n4] 25)).alloc (by simp) (.cells #[.int .i64 d.dc, .int .i64 d.n] 47)).alloc (by simp; omega) (.cells #[.slice none 0 0, .slice none 0 0, .slice none 0 0] 29)
  clear h
  go_enter Tryz.func56, Tryz.ntmps56
  go_wp2_with fail
  refine (fcheck_any t d _ _ _ (HC.out _ hb0) (by omega)).mono ?_
  rintro e w1 ⟨rfl, hb1⟩
  have hs1 := hb1.size
  simp only [World.size_alloc] at hs1
  have hB1 : Below w.heap.size w w1 := hb0.trans (hb1.mono (by simp; omega))
  have c0 : w1.cell? ⟨w.heap.size, 0, none⟩ = some (.slice A3 t.es.length n3) := by
    rw [hb1.cell (p := ⟨w.heap.size, 0, none⟩) (by simp; omega)]
    rw [World.cell?_alloc_lt _ _ _ (by simp; omega), World.cell?_alloc_lt _ _ _ (by simp)]; simp
  have c1 : w1.cell? ⟨w.heap.size, 1, none⟩ = some (.slice A4 t.ks.length n4) := by
    rw [hb1.cell (p := ⟨w.heap.size, 1, none⟩) (by simp; omega)]
    rw [World.cell?_alloc_lt _ _ _ (by simp; omega), World.cell?_alloc_lt _ _ _ (by simp)]; simp
  have d0 : w1.cell? ⟨w.heap.size + 1, 0, none⟩ = some (.int .i64 d.dc) := by rw [hb1.cell (p := ⟨w.heap.size + 1, 0, none⟩) (by simp), World.cell?_alloc_lt _ _ _ (by simp)]; simp
  have d1 : w1.cell? ⟨w.heap.size + 1, 1, none⟩ = some (.int .i64 d.n) := by rw [hb1.cell (p := ⟨w.heap.size + 1, 1, none⟩) (by simp), World.cell?_alloc_lt _ _ _ (by simp)]; simp
  have hg : w1.heap[w.heap.size + 2]? = some (.cells #[.slice none 0 0, .slice none 0 0, .slice none 0 0] 29 (0, 0)) := (hb1.block (w.heap.size + 2) (by simp)).trans (heap_new (by simp))
  have HG := hid hg
  have k0 : w1.cell? ⟨w.heap.size + 2, 0, none⟩ = some (.slice none 0 0) := cell_cells (i := 0) hg
  have k1 : w1.cell? ⟨w.heap.size + 2, 1, none⟩ = some (.slice none 0 0) := cell_cells (i := 1) hg
  have k2 : w1.cell? ⟨w.heap.size + 2, 2, none⟩ = some (.slice none 0 0) := cell_cells (i := 2) hg
  have z0 := cells_frz (i := 0) hg
  have z1 := cells_frz (i := 1) hg
  have z2 := cells_frz (i := 2) hg
  clear hg hb1
  cases hc : chkT t d
  · have HE : Hid (chkI t d = 1) := by unfold Hid chkI; rw [hc]; rfl
    have HD : Hid (disC t d = []) := by unfold Hid disC; rw [hc]; rfl
    rw [HE.out]
    clear hc
    go_wp2_with fail
    obtain ⟨r0, r1, r2, hK, hS⟩ := box3 HG.out (.slice none 0 0) (.slice none 0 0) (.slice none 0 0)
    have hBW := ((hB1.setCell (p := ⟨w.heap.size + 2, 0, none⟩) (by simp) (.slice none 0 0)).setCell (p := ⟨w.heap.size + 2, 1, none⟩) (by simp) (.slice none 0 0)).setCell (p := ⟨w.heap.size + 2, 2, none⟩) (by simp) (.slice none 0 0)
    refine bodyPost_ret (v := .tuple #[.agg #[.slice none 0 0, .slice none 0 0, .slice none 0 0], .int .i64 1]) (by simp [results, Tryz.results56, go_sem, r0, r1, r2]) rfl ⟨_, _, _, by rw [HE.out], ?_, ?_, hBW⟩
    · exact rda_nil _ _
    · rw [HD.out]; exact SlA.nil
  · have HE : Hid (chkI t d = 0) := by unfold Hid chkI; rw [hc]; rfl
    have HD : Hid (disC t d = seenC t d) := by unfold Hid disC; rw [hc]; rfl
    have HDR := hid (chkT_right hc)
    have HTR := hid (chkT_tree hc)
    rw [HE.out]
    clear hc
    go_wp2_with fail
    refine (seen_any t d _ _ w1 (HC.out _ hB1) hN HTR.out HDR.out hd).mono ?_
    rintro e w2 ⟨v2, rfl, ho2, hb2⟩
    obtain ⟨A2, c2, rfl⟩ := ho2.shape
    have hs2 := hb2.size
    have hB2 : Below w.heap.size w w2 := hB1.trans (hb2.mono (by omega))
    have HG2 := hid ((hb2.block (w.heap.size + 2) (by omega)).trans HG.out)
    clear k0 k1 k2 z0 z1 z2 c0 c1 d0 d1
    have k0 : w2.cell? ⟨w.heap.size + 2, 0, none⟩ = some (.slice none 0 0) := cell_cells (i := 0) HG2.out
    have k1 : w2.cell? ⟨w.heap.size + 2, 1, none⟩ = some (.slice none 0 0) := cell_cells (i := 1) HG2.out
    have k2 : w2.cell? ⟨w.heap.size + 2, 2, none⟩ = some (.slice none 0 0) := cell_cells (i := 2) HG2.out
    have z0 := cells_frz (i := 0) HG2.out
    have z1 := cells_frz (i := 1) HG2.out
    have z2 := cells_frz (i := 2) HG2.out
    have HO2 := hid ho2
    have hsc := seenC_len t d
    clear ho2
    go_wp2_with fail
    obtain ⟨r0, r1, r2, hK, hS⟩ := box3 HG2.out (.slice none 0 0) (.slice none 0 0) (.slice A2 (seenC t d).length c2)
    have hBW := ((hB2.setCell (p := ⟨w.heap.size + 2, 0, none⟩) (by simp) (.slice none 0 0)).setCell (p := ⟨w.heap.size + 2, 1, none⟩) (by simp) (.slice none 0 0)).setCell (p := ⟨w.heap.size + 2, 2, none⟩) (by simp) (.slice A2 (seenC t d).length c2)
    refine bodyPost_ret (v := .tuple #[.agg #[.slice none 0 0, .slice none 0 0, .slice A2 (seenC t d).length c2], .int .i64 0]) (by simp [results, Tryz.results56, go_sem, r0, r1, r2]) rfl ⟨_, _, _, by rw [HE.out], rda_nil _ _, ?_, hBW⟩
    rw [HD.out]
    refine (HO2.out.sla (by unfold Big; omega)).up (fun b hb => hK b (by have := hb.1; omega)) (fun b hb => ⟨by have := hb.1; omega, by rw [hS]; exact hb.2.1⟩) (fun _ _ _ h => h)
end Go.Proofs.YtdcmjmcipgadlaaGreat

namespace Go.Proofs.YtdcmjmcipgadlaaGreat
open Go.RowKit
set_option maxRecDepth 100000

theorem minus_rule : RuleRun 152 2 :=
  ⟨enters_of Tryz.func152 (by kernel_rfl) rfl, fun a b va vb W ha hb hra hrb hN hN' => minus_by hra hrb ▸ sminus_any a b va vb W ha hb hra hrb (by rw [minus_by hra hrb]; have := byL_len a b 2; omega)⟩
theorem cminus_any (a b : List Sp) (va vb : Value) (w : World) (ha : SlP w w.heap.size 3 SpE va a) (hb : SlP w w.heap.size 3 SpE vb b) (hra : apartB a = true) (hrb : apartB b = true) (hN : a.length ≤ 20000) (hN' : b.length ≤ 20000) :
    Calls Tryz.prog 129 #[va, vb] w (RetO w 79 3 (fun _ => SpE) (ctxBy a b 2)) := by
  go_enter Tryz.func129, Tryz.ntmps129
  go_wp2_with fail
  refine (cby_any a b 2 _ minus_rule va vb w ha hb hra hrb hN hN').mono ?_
  rintro e w1 ⟨v, rfl, h⟩
  go_wp2_with fail
  go_ret
  exact ⟨v, rfl, h⟩

theorem cright_any (c : List Sp) (vc : Value) (w : World) (h : SlP w w.heap.size 3 SpE vc c) (hN : c.length ≤ 900000) :
    Calls Tryz.prog 128 #[vc] w fun e w' => e = .returned (.bool (apartB c)) ∧ Below w.heap.size w w' := by
  have HC := hid h
  obtain ⟨A, n, rfl, _⟩ := h
  go_enter Tryz.func128, Tryz.ntmps128
  go_wp2_with fail
  refine (apart_any c _ _ HC.out hN).mono ?_
  rintro e w1 ⟨vs, rfl, hsl, hb1⟩
  have hs1 := hb1.size
  obtain ⟨A0, m0, g0, _⟩ := hsl 0 (by omega)
  obtain ⟨A1, m1, g1, _⟩ := hsl 1 (by omega)
  obtain ⟨A2, m2, g2, _⟩ := hsl 2 (by omega)
  obtain ⟨A3, m3, g3, _⟩ := hsl 3 (by omega)
  simp only [g0, g1, g2, g3]
  clear hsl g0 g1 g2 g3
  go_wp2_with fail
  all_goals (go_ret; exact ⟨rfl, hb1.alloc hs1 _⟩)

/-- What context.Leq tells. -/
def cLeq (a b : List Sp) : Bool := apartB a && (apartB b && decide ((ctxBy a b 2).length = 0))
set_option maxHeartbeats 2000000 in
theorem cleq_any (a b : List Sp) (va vb : Value) (w : World) (ha : SlP w w.heap.size 3 SpE va a) (hb : SlP w w.heap.size 3 SpE vb b) (hN : a.length ≤ 20000) (hN' : b.length ≤ 20000) :
    Calls Tryz.prog 93 #[va, vb] w fun e w' => e = .returned (.bool (cLeq a b)) ∧ Below w.heap.size w w' := by
  have HA := hid ha
  have HB := hid hb
  obtain ⟨A1, c1, rfl, _⟩ := ha
  obtain ⟨A2, c2, rfl, _⟩ := hb
  go_enter Tryz.func93, Tryz.ntmps93
  go_wp2_with fail
  refine (cright_any a _ w HA.out (by omega)).mono ?_
  rintro e w1 ⟨rfl, hb1⟩
  have hs1 := hb1.size
  cases ra : apartB a
  · have HR : Hid (cLeq a b = false) := by unfold Hid cLeq; rw [ra]; rfl
    clear ra
    go_wp2_with fail
    go_ret
    exact ⟨ret_bool HR.out.symm, hb1⟩
  have RA := hid ra
  go_wp2_with fail
  refine (cright_any b _ w1 (HB.out.imp hb1 hs1 fun _ _ _ h => h) (by omega)).mono ?_
  rintro e w2 ⟨rfl, hb2⟩
  have hs2 := hb2.size
  have hB2 : Below w.heap.size w w2 := hb1.trans (hb2.mono hs1)
  cases rb : apartB b
  · have HR : Hid (cLeq a b = false) := by unfold Hid cLeq; rw [ra, rb]; rfl
    clear ra rb
    go_wp2_with fail
    go_ret
    exact ⟨ret_bool HR.out.symm, hB2⟩
  have RB := hid rb
  have HR : Hid (cLeq a b = decide ((ctxBy a b 2).length = 0)) := by unfold Hid cLeq; rw [ra, rb]; rfl
  clear ra rb
  go_wp2_with fail
  refine (cminus_any a b _ _ w2 (HA.out.imp hB2 (by omega) fun _ _ _ h => h) (HB.out.imp hB2 (by omega) fun _ _ _ h => h) RA.out RB.out hN hN').mono ?_
  rintro e w3 ⟨v3, rfl, ho3, hb3⟩
  obtain ⟨A5, c5, rfl⟩ := ho3.shape
  have hl := ctxBy_len a b 2
  clear ho3
  generalize ctxBy a b 2 = C at *
  rcases hz : decide (C.length = 0)
  · have hz2 : C.length ≠ 0 := by simpa using hz
    have HZ := hid hz
    clear hz
    go_wp2_with fail
    go_ret
    exact ⟨ret_bool (by rw [HR.out, HZ.out]; simpa using hz2), hB2.trans (hb3.mono (by omega))⟩
  · have hz2 : C.length = 0 := by simpa using hz
    have HZ := hid hz
    clear hz
    go_wp2_with fail
    go_ret
    exact ⟨ret_bool (by rw [HR.out, HZ.out]), hB2.trans (hb3.mono (by omega))⟩
end Go.Proofs.YtdcmjmcipgadlaaGreat

namespace Go.Proofs.YtdcmjmcipgadlaaGreat
open Go.RowKit
set_option maxRecDepth 100000

/-- What causal.Right tells. -/
def caR (t : Tr) (c : List Sp) : Bool := t.right 5 && cLeq (ctxOf t.dots) c
set_option maxHeartbeats 2000000 in
theorem caright_any (t : Tr) (c : List Sp) (ve vk vc : Value) (w : World) (h : t.rd w w.heap.size ve vk) (hc : SlP w w.heap.size 3 SpE vc c) (hN : t.sz ≤ 4000) (hN' : c.length ≤ 20000) :
    Calls Tryz.prog 48 #[.agg #[ve, vk, vc]] w fun e w' => e = .returned (.bool (caR t c)) ∧ Below w.heap.size w w' := by
  have HC : Hid (∀ w', Below w.heap.size w w' → t.rd w' w'.heap.size ve vk) := fun w' hb => rd_below hb hb.size _ _ _ h
  have HS : Hid (∀ w', Below w.heap.size w w' → SlP w' w'.heap.size 3 SpE vc c) := fun w' hb => hc.imp hb hb.size fun _ _ _ h => h
  have hd1 := ctxOf_len t.dots
  have hd2 := dots_len t
  obtain ⟨A3, n3, A4, n4, rfl, rfl⟩ := rd_shape h
  obtain ⟨A5, n5, rfl, _⟩ := hc
  clear h
  have hb0 : Below w.heap.size w (w.alloc (.cells #[.slice A3 t.es.length n3, .slice A4 t.ks.length n4, .slice A5 c.length n5] 29)) := (Below.refl _ w).alloc (Nat.le_refl _) _
  go_enter Tryz.func48, Tryz.ntmps48
  go_wp2_with fail
  refine (tdots_any t _ _ _ (HC.out _ hb0) (by omega)).mono ?_
  rintro e w1 ⟨v1, n1, rfl, hn1, ho1, hb1⟩
  have hs1 := hb1.size
  simp only [World.size_alloc] at hs1
  have hB1 : Below w.heap.size w w1 := hb0.trans (hb1.mono (by simp))
  have b2 : w1.cell? ⟨w.heap.size, 2, none⟩ = some (.slice A5 c.length n5) := by rw [hb1.cell (p := ⟨w.heap.size, 2, none⟩) (by simp)]; simp
  cases hr : t.right 5
  · rw [hr] at hn1 ho1
    simp only [Bool.false_eq_true, if_false] at hn1 ho1
    subst hn1
    have HR : Hid (caR t c = false) := by unfold Hid caR; rw [hr]; rfl
    obtain ⟨A6, n6, rfl⟩ := ho1.shape
    clear hr ho1
    go_wp2_with fail
    go_ret
    exact ⟨ret_bool HR.out.symm, hB1⟩
  · rw [hr] at hn1 ho1
    simp only [if_true] at hn1 ho1
    subst hn1
    have HR : Hid (caR t c = cLeq (ctxOf t.dots) c) := by unfold Hid caR; rw [hr]; rfl
    have HSL := hid (ho1.sl (by unfold Big; omega))
    obtain ⟨A6, n6, rfl⟩ := ho1.shape
    clear hr ho1
    go_wp2_with fail
    refine (cleq_any (ctxOf t.dots) c _ _ w1 HSL.out (HS.out _ hB1) (by omega) hN').mono ?_
    rintro e w2 ⟨rfl, hb2⟩
    go_wp2_with fail
    go_ret
    exact ⟨ret_bool HR.out.symm, hB1.trans (hb2.mono (by omega))⟩
end Go.Proofs.YtdcmjmcipgadlaaGreat

namespace Go.Proofs.YtdcmjmcipgadlaaGreat
open Go.RowKit
set_option maxRecDepth 100000

theorem wrapClo_any (s : ByteArray) (w : World) : Calls Tryz.prog 104 #[.string s] w fun e w' => e = .returned (.bool !keyB s) ∧ Below w.heap.size w w' := by
  go_enter Tryz.func104, Tryz.ntmps104
  go_wp2_with fail
  refine (tkey_any s _).mono ?_
  rintro e w1 ⟨rfl, hb1⟩
  go_wp2_with fail
  go_ret
  exact ⟨rfl, hb1⟩

theorem right_dep : ∀ (t : Tr) (d : Int), t.right d = true → (t.dep : Int) ≤ d := by
  intro t
  induction t using Tr.ind with
  | h es ks ih =>
  intro d h
  rw [Tr.right, Bool.and_eq_true, Bool.and_eq_true, decide_eq_true_eq] at h
  obtain ⟨⟨h1, _⟩, h2⟩ := h
  rw [Tr.dep]
  have : ∀ (p : Option ByteArray) (ks : List Kd), (∀ k t, (k, t) ∈ ks → ∀ d, t.right d = true → (t.dep : Int) ≤ d) → Tr.rightL p ks d = true → (Tr.depL ks : Int) ≤ d - 1 := by
    intro p ks
    induction ks generalizing p with
    | nil => intro _ _; simp [Tr.depL]; omega
    | cons x ks ih' =>
      obtain ⟨k, t⟩ := x
      intro hi h
      rw [rightL_cons, Bool.and_eq_true, Bool.and_eq_true] at h
      have a := hi k t (by simp) _ h.1.2
      have b := ih' (some k) (fun k t hm => hi k t (by simp [hm])) h.2
      rw [Tr.depL]; omega
  have := this none ks ih h2
  omega

/-- What tree.Wrap makes of a tree and a key: the error's number, the tree. -/
def wrapE (t : Tr) (s : ByteArray) : Int := if !(t.right 5) || !keyB s then 1 else if !empB t.es.length t.ks.length && decide (5 < t.dep + 1) then 10 else 0
def wrapT (t : Tr) (s : ByteArray) : Tr := if wrapE t s = 0 then (if empB t.es.length t.ks.length then t else .mk [] [(s, t)]) else .mk [] []
/-- The call hands back a tree in blocks of its own, and an error's number. -/
def RetTE (w : World) (t : Tr) (k : Int) (e : Ending) (w' : World) : Prop :=
  ∃ ve vk, e = .returned (.tuple #[.agg #[ve, vk], .int .i64 k]) ∧ t.rda w' (fun b => w.heap.size ≤ b ∧ b < w'.heap.size) ve vk ∧ Below w.heap.size w w'
theorem wrap_world {w w6 : World} {t : Tr} {s : ByteArray} {Ae Ak : Option Addr} {ne nk : Nat} {x0 x1 : Value} (hs : s.size ≤ Big) (g2 : w6.heap[w.heap.size]? = some (.cells #[x0, x1] 25 (0, 0)))
    (g4 : w6.heap[w.heap.size + 1]? = some (.cells #[.slice none 0 0, .slice none 0 0] 25 (0, 0))) (hsw : w.heap.size + 2 ≤ w6.heap.size) (hrd : t.rda w6 (fun b => w.heap.size + 2 ≤ b ∧ b < w6.heap.size) (.slice Ae t.es.length ne) (.slice Ak t.ks.length nk)) (hB : Below w.heap.size w w6) :
    ∃ W, W = ((((w6.setCell ⟨w.heap.size, 0, none⟩ (.slice none 0 0)).setCell ⟨w.heap.size, 1, none⟩ (.slice (some ⟨w6.heap.size, 0, none⟩) 1 1)).alloc (.cells #[.string s, .slice Ae t.es.length ne, .slice Ak t.ks.length nk] 73)).drew) ∧ W.heap[w.heap.size]? = some (.cells #[.slice none 0 0, .slice (some ⟨w6.heap.size, 0, none⟩) 1 1] 25 (0, 0)) ∧
      (Tr.mk [] [(s, t)]).rda W (fun b => w.heap.size + 2 ≤ b ∧ b < W.heap.size) (.slice none 0 0) (.slice (some ⟨w6.heap.size, 0, none⟩) 1 1) ∧
      W.heap[w.heap.size + 1]? = some (.cells #[.slice none 0 0, .slice none 0 0] 25 (0, 0)) ∧ Below w.heap.size w W ∧ w.heap.size + 2 ≤ W.heap.size := by
  have hS : ((w6.setCell ⟨w.heap.size, 0, none⟩ (.slice none 0 0)).setCell ⟨w.heap.size, 1, none⟩ (.slice (some ⟨w6.heap.size, 0, none⟩) 1 1)).heap.size = w6.heap.size := by simp [World.setCell]
  have hK : ∀ b, b ≠ w.heap.size → ((w6.setCell ⟨w.heap.size, 0, none⟩ (.slice none 0 0)).setCell ⟨w.heap.size, 1, none⟩ (.slice (some ⟨w6.heap.size, 0, none⟩) 1 1)).heap[b]? = w6.heap[b]? := fun b hb => (Below.heap_setCell _ _ _ _ hb).trans (Below.heap_setCell _ _ _ _ hb)
  have hC := cells_set (i := 1) (cells_set (i := 0) g2 (.slice none 0 0)) (.slice (some ⟨w6.heap.size, 0, none⟩) 1 1)
  have hBW := (hB.setCell (p := ⟨w.heap.size, 0, none⟩) (by simp) (.slice none 0 0)).setCell (p := ⟨w.heap.size, 1, none⟩) (by simp) (.slice (some ⟨w6.heap.size, 0, none⟩) 1 1)
  refine ⟨_, rfl, ?_⟩
  generalize ((w6.setCell ⟨w.heap.size, 0, none⟩ (.slice none 0 0)).setCell ⟨w.heap.size, 1, none⟩ (.slice (some ⟨w6.heap.size, 0, none⟩) 1 1)) = V at *
  refine ⟨(heap_old (by omega)).trans (by simpa using hC), ?_, (heap_old (by omega)).trans ((hK _ (by omega)).trans g4), (hBW.alloc (by omega) _).drew, by show _ ≤ (V.alloc _).heap.size; rw [World.size_alloc]; omega⟩
  rw [rda_iff]
  refine ⟨SlA.nil, ?_⟩
  have hZ : (V.alloc (.cells #[.string s, .slice Ae t.es.length ne, .slice Ak t.ks.length nk] 73)).drew.heap.size = V.heap.size + 1 := World.size_alloc _ _
  have hk2 : Keeps (fun b => w.heap.size + 2 ≤ b ∧ b < w6.heap.size) w6 (V.alloc (.cells #[.string s, .slice Ae t.es.length ne, .slice Ak t.ks.length nk] 73)).drew := fun b hb => show (V.alloc (.cells #[.string s, .slice Ae t.es.length ne, .slice Ak t.ks.length nk] 73)).heap[b]? = _ from (heap_old (by have := hb.2; omega)).trans (hK b (by have := hb.1; omega))
  have hrd2 : t.rda (V.alloc (.cells #[.string s, .slice Ae t.es.length ne, .slice Ak t.ks.length nk] 73)).drew (fun b => w.heap.size + 2 ≤ b ∧ b < (V.alloc (.cells #[.string s, .slice Ae t.es.length ne, .slice Ak t.ks.length nk] 73)).drew.heap.size) (.slice Ae t.es.length ne) (.slice Ak t.ks.length nk) := rda_up hk2 (fun b hb => ⟨hb.1, by rw [hZ]; have := hb.2; omega⟩) _ _ _ hrd
  have hnew : (V.alloc (.cells #[.string s, .slice Ae t.es.length ne, .slice Ak t.ks.length nk] 73)).drew.heap[w6.heap.size]? = some (.cells #[.string s, .slice Ae t.es.length ne, .slice Ak t.ks.length nk] 73 (0, 0)) := show (V.alloc (.cells #[.string s, .slice Ae t.es.length ne, .slice Ak t.ks.length nk] 73)).heap[w6.heap.size]? = _ from heap_new hS.symm
  exact SlA.one (x := (s, t)) (cs := [.string s, .slice Ae t.es.length ne, .slice Ak t.ks.length nk]) (e := 73) (z := (0, 0)) ⟨_, _, rfl, hs, hrd2⟩ rfl hnew ⟨hsw, by rw [hZ]; omega⟩
set_option maxHeartbeats 4000000 in
theorem twrap_any (t : Tr) (s : ByteArray) (ve vk vp : Value) (w : World) (h : t.rd w w.heap.size ve vk) (hp : SlP w w.heap.size 1 StE vp [s]) (hN : t.sz ≤ 900000) :
    Calls Tryz.prog 70 #[.agg #[ve, vk], vp] w (RetTE w (wrapT t s) (wrapE t s)) := by
  have HC : Hid (∀ w', Below w.heap.size w w' → t.rd w' w'.heap.size ve vk) := fun w' hb => rd_below hb hb.size _ _ _ h
  have HP : Hid (∀ w', Below w.heap.size w w' → SlP w' w'.heap.size 1 StE vp [s]) := fun w' hb => hp.imp hb hb.size fun _ _ _ h => h
  have hfit := fit_rd _ _ _ h
  obtain ⟨hel, hkl⟩ : t.es.length ≤ 140737488355328 ∧ t.ks.length ≤ 140737488355328 := by obtain ⟨es, ks⟩ := t; exact ⟨hfit.1, hfit.2.1⟩
  obtain ⟨A3, n3, A4, n4, rfl, rfl⟩ := rd_shape h
  obtain ⟨Ap, cp, rfl, p1, p2, p3⟩ := hp
  obtain ⟨bp, op, rfl, hbp, hcp⟩ := p3 (by simp)
  obtain ⟨cs, ⟨rfl, hsz⟩, _, hu⟩ := hcp 0 s rfl
  have hps : w.cell? ⟨bp, op, none⟩ = some (.string s) := by simpa using hu 0 _ rfl
  clear hcp hu p3 h hfit
  simp only [List.length_cons, List.length_nil] at *
  have hb0 : Below w.heap.size w ((w.alloc (.cells #[.slice A3 t.es.length n3, .slice A4 t.ks.length n4] 25)).alloc (.cells #[.slice none 0 0, .slice none 0 0] 25)) := ((Below.refl _ w).alloc (Nat.le_refl _) _).alloc (by simp) _
  have HT : Hid (∀ w, TestStr 104 #[] (fun s => !keyB s) w) := fun w => ⟨enters_of Tryz.func104 (by kernel_rfl) rfl, fun x W _ _ => wrapClo_any x W⟩
  go_enter Tryz.func70, Tryz.ntmps70
  have HW : Hid (∀ w', Below (w.heap.size + 2) ((w.alloc (.cells #[.slice A3 t.es.length n3, .slice A4 t.ks.length n4] 25)).alloc (.cells #[.slice none 0 0, .slice none 0 0] 25)) w' → Below w.heap.size w w' ∧ w.heap.size + 2 ≤ w'.heap.size ∧ w'.heap[w.heap.size]? = some (.cells #[.slice A3 t.es.length n3, .slice A4 t.ks.length n4] 25 (0, 0)) ∧ w'.heap[w.heap.size + 1]? = some (.cells #[.slice none 0 0, .slice none 0 0] 25 (0, 0)) ∧ w'.cell? ⟨bp, op, none⟩ = some (.string s)) := fun w' hb => by
    have hB : Below w.heap.size w w' := hb0.trans (hb.mono (by omega))
    refine ⟨hB, by have := hb.size; simpa using this, (hb.block _ (by omega)).trans ((heap_old (by simp)).trans (heap_new rfl)), (hb.block _ (by omega)).trans (heap_new (by simp)), (hB.cell hbp).trans hps⟩
  have HPS := hid hps
  clear hps
  go_wp2_with fail
  refine (tRight_any t _ _ _ (HC.out _ hb0)).mono ?_
  rintro e w1 ⟨rfl, hb1⟩
  have hb1' := hid (hb1.mono (show w.heap.size + 2 ≤ _ by simp))
  obtain ⟨hB1, hs1, g2, g4, hps⟩ := HW.out _ hb1'.out
  have HG2 := hid g2
  have HG4 := hid g4
  have c0 : w1.cell? ⟨w.heap.size, 0, none⟩ = some (.slice A3 t.es.length n3) := cell_cells (i := 0) g2
  have c1 : w1.cell? ⟨w.heap.size, 1, none⟩ = some (.slice A4 t.ks.length n4) := cell_cells (i := 1) g2
  have k0 : w1.cell? ⟨w.heap.size + 1, 0, none⟩ = some (.slice none 0 0) := cell_cells (i := 0) g4
  have k1 : w1.cell? ⟨w.heap.size + 1, 1, none⟩ = some (.slice none 0 0) := cell_cells (i := 1) g4
  have y0 := cells_frz (i := 0) g2
  have y1 := cells_frz (i := 1) g2
  have z0 := cells_frz (i := 0) g4
  have z1 := cells_frz (i := 1) g4
  clear g2 g4
  clear hb1
  cases hr : t.right 5
  · have HE : Hid (wrapE t s = 1) := by unfold Hid wrapE; rw [hr]; rfl
    have HTT : Hid (wrapT t s = .mk [] []) := by unfold Hid wrapT; rw [HE.out]; rfl
    clear hr
    go_wp2_with fail
    have hW0 := cells_set (i := 1) (cells_set (i := 0) HG4.out (.slice none 0 0)) (.slice none 0 0)
    have r0 := (cell_cells (i := 0) hW0).trans (show _ = some (.slice none 0 0) by simp)
    have r1 := (cell_cells (i := 1) hW0).trans (show _ = some (.slice none 0 0) by simp)
    refine bodyPost_ret (v := .tuple #[.agg #[.slice none 0 0, .slice none 0 0], .int .i64 1]) (by simp [results, Tryz.results70, go_sem, r0, r1]) rfl ⟨_, _, by rw [HE.out], by rw [HTT.out]; exact rda_nil _ _, (hB1.setCell (by simp) _).setCell (by simp) _⟩
  have hdep := right_dep t 5 hr
  go_wp2_with fail
  refine (conStr_any (fun s => !keyB s) _ _ [s] _ w1 (HP.out _ hB1) (HT.out w1)).mono ?_
  rintro e w2 ⟨rfl, hb2⟩
  rw [show List.any [s] (fun s => !keyB s) = !keyB s by simp]
  clear c0 c1 k0 k1 y0 y1 z0 z1 hps HG2 HG4
  have hb2' := hid (hb1'.out.trans (hb2.mono hs1))
  obtain ⟨hB2, hs2, g2, g4, hps⟩ := HW.out _ hb2'.out
  have HG2 := hid g2
  have HG4 := hid g4
  have c0 : w2.cell? ⟨w.heap.size, 0, none⟩ = some (.slice A3 t.es.length n3) := cell_cells (i := 0) g2
  have c1 : w2.cell? ⟨w.heap.size, 1, none⟩ = some (.slice A4 t.ks.length n4) := cell_cells (i := 1) g2
  have k0 : w2.cell? ⟨w.heap.size + 1, 0, none⟩ = some (.slice none 0 0) := cell_cells (i := 0) g4
  have k1 : w2.cell? ⟨w.heap.size + 1, 1, none⟩ = some (.slice none 0 0) := cell_cells (i := 1) g4
  have y0 := cells_frz (i := 0) g2
  have y1 := cells_frz (i := 1) g2
  have z0 := cells_frz (i := 0) g4
  have z1 := cells_frz (i := 1) g4
  clear g2 g4
  clear hb2
  cases hk : keyB s
  · have HE : Hid (wrapE t s = 1) := by unfold Hid wrapE; rw [hr, hk]; rfl
    have HTT : Hid (wrapT t s = .mk [] []) := by unfold Hid wrapT; rw [HE.out]; rfl
    clear hr hk
    go_wp2_with fail
    have hW0 := cells_set (i := 1) (cells_set (i := 0) HG4.out (.slice none 0 0)) (.slice none 0 0)
    have r0 := (cell_cells (i := 0) hW0).trans (show _ = some (.slice none 0 0) by simp)
    have r1 := (cell_cells (i := 1) hW0).trans (show _ = some (.slice none 0 0) by simp)
    refine bodyPost_ret (v := .tuple #[.agg #[.slice none 0 0, .slice none 0 0], .int .i64 1]) (by simp [results, Tryz.results70, go_sem, r0, r1]) rfl ⟨_, _, by rw [HE.out], by rw [HTT.out]; exact rda_nil _ _, (hB2.setCell (by simp) _).setCell (by simp) _⟩
  go_wp2_with fail
  refine (tempty_any t.es.length t.ks.length A3 A4 n3 n4 w2).mono ?_
  rintro e w3 ⟨rfl, hb3⟩
  clear c0 c1 k0 k1 y0 y1 z0 z1 hps HG2 HG4
  have hb3' := hid (hb2'.out.trans (hb3.mono hs2))
  obtain ⟨hB3, hs3, g2, g4, hps⟩ := HW.out _ hb3'.out
  have HG2 := hid g2
  have HG4 := hid g4
  have c0 : w3.cell? ⟨w.heap.size, 0, none⟩ = some (.slice A3 t.es.length n3) := cell_cells (i := 0) g2
  have c1 : w3.cell? ⟨w.heap.size, 1, none⟩ = some (.slice A4 t.ks.length n4) := cell_cells (i := 1) g2
  have k0 : w3.cell? ⟨w.heap.size + 1, 0, none⟩ = some (.slice none 0 0) := cell_cells (i := 0) g4
  have k1 : w3.cell? ⟨w.heap.size + 1, 1, none⟩ = some (.slice none 0 0) := cell_cells (i := 1) g4
  have y0 := cells_frz (i := 0) g2
  have y1 := cells_frz (i := 1) g2
  have z0 := cells_frz (i := 0) g4
  have z1 := cells_frz (i := 1) g4
  clear g2 g4
  clear hb3
  cases hm : empB t.es.length t.ks.length
  · go_wp2_with fail
    refine (tdeep_any t w3 _ _ (HC.out _ hB3) (by omega)).mono ?_
    rintro e w4 ⟨rfl, hb4⟩
    clear c0 c1 k0 k1 y0 y1 z0 z1 hps HG2 HG4
    have hb4' := hid (hb3'.out.trans (hb4.mono hs3))
    obtain ⟨hB4, hs4, g2, g4, hps⟩ := HW.out _ hb4'.out
    have HG2 := hid g2
    have HG4 := hid g4
    have c0 : w4.cell? ⟨w.heap.size, 0, none⟩ = some (.slice A3 t.es.length n3) := cell_cells (i := 0) g2
    have c1 : w4.cell? ⟨w.heap.size, 1, none⟩ = some (.slice A4 t.ks.length n4) := cell_cells (i := 1) g2
    have k0 : w4.cell? ⟨w.heap.size + 1, 0, none⟩ = some (.slice none 0 0) := cell_cells (i := 0) g4
    have k1 : w4.cell? ⟨w.heap.size + 1, 1, none⟩ = some (.slice none 0 0) := cell_cells (i := 1) g4
    have y0 := cells_frz (i := 0) g2
    have y1 := cells_frz (i := 1) g2
    have z0 := cells_frz (i := 0) g4
    have z1 := cells_frz (i := 1) g4
    clear g2 g4
    clear hb4
    cases hd : decide (5 < t.dep + 1)
    · have HE : Hid (wrapE t s = 0) := by unfold Hid wrapE; rw [hr, hk, hm, hd]; rfl
      have HTT : Hid (wrapT t s = .mk [] [(s, t)]) := by unfold Hid wrapT; rw [HE.out, hm]; rfl
      have hd1 : decide ((5 : Int) < (t.dep : Int) + 1) = false := by simp at hd ⊢; omega
      clear hr hk hd
      go_wp2_with fail
      refine (tclone_any t w4 _ _ (HC.out _ hB4) hN).mono ?_
      rintro e w5 ⟨vc, vd, rfl, hrd, hb5⟩
      obtain ⟨A5, n5, A6, n6, rfl, rfl⟩ := rda_shape hrd
      clear c0 c1 k0 k1 y0 y1 z0 z1 hps HG2 HG4
      have hb5' := hid (hb4'.out.trans (hb5.mono hs4))
      obtain ⟨hB5, hs5, g2, g4, hps⟩ := HW.out _ hb5'.out
      have HG2 := hid g2
      have HG4 := hid g4
      have c0 : w5.cell? ⟨w.heap.size, 0, none⟩ = some (.slice A3 t.es.length n3) := cell_cells (i := 0) g2
      have c1 : w5.cell? ⟨w.heap.size, 1, none⟩ = some (.slice A4 t.ks.length n4) := cell_cells (i := 1) g2
      have k0 : w5.cell? ⟨w.heap.size + 1, 0, none⟩ = some (.slice none 0 0) := cell_cells (i := 0) g4
      have k1 : w5.cell? ⟨w.heap.size + 1, 1, none⟩ = some (.slice none 0 0) := cell_cells (i := 1) g4
      have y0 := cells_frz (i := 0) g2
      have y1 := cells_frz (i := 1) g2
      have z0 := cells_frz (i := 0) g4
      have z1 := cells_frz (i := 1) g4
      clear g2 g4
      clear hb5
      have HRD : Hid (t.rda w5 (fun b => w.heap.size + 2 ≤ b ∧ b < w5.heap.size) (.slice A5 t.es.length n5) (.slice A6 t.ks.length n6)) := rda_up (fun _ _ => rfl) (fun b hb => ⟨by have := hb.1; omega, hb.2⟩) _ _ _ hrd
      clear hrd
      go_wp2_with fail
      obtain ⟨r0, r1, r2, r3⟩ := box_tree HG2.out HRD.out (fun b hb => by have := hb.1; omega)
      have r4 : ((w5.setCell ⟨w.heap.size, 0, none⟩ (.slice A5 t.es.length n5)).setCell ⟨w.heap.size, 1, none⟩ (.slice A6 t.ks.length n6)).heap[w.heap.size]? = some (.cells #[.slice A5 t.es.length n5, .slice A6 t.ks.length n6] 25 (0, 0)) := by simpa using cells_set (i := 1) (cells_set (i := 0) HG2.out (.slice A5 t.es.length n5)) (.slice A6 t.ks.length n6)
      have r5 : ((w5.setCell ⟨w.heap.size, 0, none⟩ (.slice A5 t.es.length n5)).setCell ⟨w.heap.size, 1, none⟩ (.slice A6 t.ks.length n6)).heap[w.heap.size + 1]? = some (.cells #[.slice none 0 0, .slice none 0 0] 25 (0, 0)) := (Below.heap_setCell _ _ _ _ (by simp)).trans ((Below.heap_setCell _ _ _ _ (by simp)).trans HG4.out)
      have r6 : Below w.heap.size w ((w5.setCell ⟨w.heap.size, 0, none⟩ (.slice A5 t.es.length n5)).setCell ⟨w.heap.size, 1, none⟩ (.slice A6 t.ks.length n6)) := (hB5.setCell (by simp) _).setCell (by simp) _
      clear c0 c1 k0 k1 y0 y1 z0 z1 hps HG2 HG4
      generalize ((w5.setCell ⟨w.heap.size, 0, none⟩ (.slice A5 t.es.length n5)).setCell ⟨w.heap.size, 1, none⟩ (.slice A6 t.ks.length n6)) = W5 at *
      go_loopw [6] (fun i wr => ∃ T Ae ne Ak nk, wr.heap[w.heap.size]? = some (.cells #[.slice Ae T.es.length ne, .slice Ak T.ks.length nk] 25 (0, 0)) ∧ T.rda wr (fun b => w.heap.size + 2 ≤ b ∧ b < wr.heap.size) (.slice Ae T.es.length ne) (.slice Ak T.ks.length nk) ∧
          wr.heap[w.heap.size + 1]? = some (.cells #[.slice none 0 0, .slice none 0 0] 25 (0, 0)) ∧ Below w.heap.size w wr ∧ w.heap.size + 2 ≤ wr.heap.size ∧ ((i = .int .i64 0 ∧ T = t) ∨ (i = .int .i64 (-1) ∧ Hid (empB t.es.length t.ks.length = false) ∧ T = .mk [] [(s, t)]))) (fun i _ => (intOf i + 1).toNat)
      case atStart => exact ⟨t, A5, n5, A6, n6, r4, by rw [r3]; exact r2, r5, r6, by omega, .inl ⟨rfl, rfl⟩⟩
      case round =>
        obtain ⟨T, Ae, ne, Ak, nk, hg2, hrd, hg4, hB, hsw, hT⟩ := hrel
        clear r0 r1 r2 r3 r4 r5 r6
        have c0 : wr.cell? ⟨w.heap.size, 0, none⟩ = some (.slice Ae T.es.length ne) := cell_cells (i := 0) hg2
        have c1 : wr.cell? ⟨w.heap.size, 1, none⟩ = some (.slice Ak T.ks.length nk) := cell_cells (i := 1) hg2
        have k0 : wr.cell? ⟨w.heap.size + 1, 0, none⟩ = some (.slice none 0 0) := cell_cells (i := 0) hg4
        have k1 : wr.cell? ⟨w.heap.size + 1, 1, none⟩ = some (.slice none 0 0) := cell_cells (i := 1) hg4
        have y0 := cells_frz (i := 0) hg2
        have y1 := cells_frz (i := 1) hg2
        have z0 := cells_frz (i := 0) hg4
        have z1 := cells_frz (i := 1) hg4
        have HG2 := hid hg2
        have HG4 := hid hg4
        have HRDW := hid hrd
        clear hg2 hg4 hrd
        rcases hT with ⟨rfl, hTt⟩ | ⟨rfl, hTt⟩
        · have hTt' := hTt.symm
          subst hTt'
          go_wp2_with fail
          refine (tempty_any t.es.length t.ks.length Ae Ak ne nk wr).mono ?_
          rw [hm]
          rintro e w6 ⟨rfl, hb6⟩
          have hs6 := hb6.size
          have hB6 : Below w.heap.size w w6 := hB.trans (hb6.mono (by omega))
          have g2 := (hb6.block _ (by omega)).trans HG2.out
          have g4 := (hb6.block _ (by omega)).trans HG4.out
          clear c0 c1 k0 k1 y0 y1 z0 z1
          have c0 : w6.cell? ⟨w.heap.size, 0, none⟩ = some (.slice Ae t.es.length ne) := cell_cells (i := 0) g2
          have c1 : w6.cell? ⟨w.heap.size, 1, none⟩ = some (.slice Ak t.ks.length nk) := cell_cells (i := 1) g2
          have y0 := cells_frz (i := 0) g2
          have y1 := cells_frz (i := 1) g2
          have hps6 : w6.cell? ⟨bp, op, none⟩ = some (.string s) := (hB6.cell hbp).trans HPS.out
          have HG2 := hid g2
          have HG4 := hid g4
          have hlt6 : w.heap.size < w6.heap.size := by omega
          have hne6 : w.heap.size ≠ w6.heap.size := by omega
          have HM := hid hm
          clear g2 g4 hm
          go_upto_region 9 with (fail)
          go_region_with (fail)
          all_goals (
            obtain ⟨W, hW, a1, a2, a3, a4, a5⟩ := wrap_world (s := s) hsz HG2.out HG4.out (by omega) (rda_up (fun b hb => hb6.block b hb.2) (fun b hb => ⟨hb.1, by have := hb.2; omega⟩) _ _ _ HRDW.out) hB6
            rw [← hW]
            clear hW c0 c1 y0 y1 hps6
            go_wp2_with fail
            go_roundw
            case rel => exact ⟨.mk [] [(s, t)], none, 0, some ⟨w6.heap.size, 0, none⟩, 1, a1, a2, a3, a4, a5, .inr ⟨by go_num, HM, rfl⟩⟩
            case measure => simp [intOf])
        · obtain ⟨_, hTt⟩ := hTt
          subst hTt
          go_wp2_with fail
          obtain ⟨r0, r1, r2, r3⟩ := box_tree HG4.out HRDW.out (fun b hb => by have := hb.1; omega)
          have hBW : Below w.heap.size w ((wr.setCell ⟨w.heap.size + 1, 0, none⟩ (.slice Ae (Tr.mk [] [(s, t)]).es.length ne)).setCell ⟨w.heap.size + 1, 1, none⟩ (.slice Ak (Tr.mk [] [(s, t)]).ks.length nk)) := (hB.setCell (by simp) _).setCell (by simp) _
          generalize ((wr.setCell ⟨w.heap.size + 1, 0, none⟩ (.slice Ae (Tr.mk [] [(s, t)]).es.length ne)).setCell ⟨w.heap.size + 1, 1, none⟩ (.slice Ak (Tr.mk [] [(s, t)]).ks.length nk)) = W at *
          refine bodyPost_ret (v := .tuple #[.agg #[.slice Ae (Tr.mk [] [(s, t)]).es.length ne, .slice Ak (Tr.mk [] [(s, t)]).ks.length nk], .int .i64 0]) (by simp [results, Tryz.results70, go_sem, r0, r1]) rfl ⟨_, _, by rw [HE.out], by rw [HTT.out]; exact rda_up (fun _ _ => rfl) (fun b hb => ⟨by have := hb.1; omega, by have := hb.2; omega⟩) _ _ _ r2, hBW⟩
    · have HE : Hid (wrapE t s = 10) := by unfold Hid wrapE; rw [hr, hk, hm, hd]; rfl
      have HTT : Hid (wrapT t s = .mk [] []) := by unfold Hid wrapT; rw [HE.out]; rfl
      have hd1 : decide ((5 : Int) < (t.dep : Int) + 1) = true := by simp at hd ⊢; omega
      clear hr hk hm hd
      go_wp2_with fail
      have hW0 := cells_set (i := 1) (cells_set (i := 0) HG4.out (.slice none 0 0)) (.slice none 0 0)
      have r0 := (cell_cells (i := 0) hW0).trans (show _ = some (.slice none 0 0) by simp)
      have r1 := (cell_cells (i := 1) hW0).trans (show _ = some (.slice none 0 0) by simp)
      refine bodyPost_ret (v := .tuple #[.agg #[.slice none 0 0, .slice none 0 0], .int .i64 10]) (by simp [results, Tryz.results70, go_sem, r0, r1]) rfl ⟨_, _, by rw [HE.out], by rw [HTT.out]; exact rda_nil _ _, (hB4.setCell (by simp) _).setCell (by simp) _⟩
  · have HE : Hid (wrapE t s = 0) := by unfold Hid wrapE; rw [hr, hk, hm]; rfl
    have HTT : Hid (wrapT t s = t) := by unfold Hid wrapT; rw [HE.out, hm]; rfl
    clear hr hk
    go_wp2_with fail
    refine (tclone_any t w3 _ _ (HC.out _ hB3) hN).mono ?_
    rintro e w5 ⟨vc, vd, rfl, hrd, hb5⟩
    obtain ⟨A5, n5, A6, n6, rfl, rfl⟩ := rda_shape hrd
    clear c0 c1 k0 k1 y0 y1 z0 z1 hps HG2 HG4
    have hb5' := hid (hb3'.out.trans (hb5.mono hs3))
    obtain ⟨hB5, hs5, g2, g4, hps⟩ := HW.out _ hb5'.out
    have HG2 := hid g2
    have HG4 := hid g4
    have c0 : w5.cell? ⟨w.heap.size, 0, none⟩ = some (.slice A3 t.es.length n3) := cell_cells (i := 0) g2
    have c1 : w5.cell? ⟨w.heap.size, 1, none⟩ = some (.slice A4 t.ks.length n4) := cell_cells (i := 1) g2
    have k0 : w5.cell? ⟨w.heap.size + 1, 0, none⟩ = some (.slice none 0 0) := cell_cells (i := 0) g4
    have k1 : w5.cell? ⟨w.heap.size + 1, 1, none⟩ = some (.slice none 0 0) := cell_cells (i := 1) g4
    have y0 := cells_frz (i := 0) g2
    have y1 := cells_frz (i := 1) g2
    have z0 := cells_frz (i := 0) g4
    have z1 := cells_frz (i := 1) g4
    clear g2 g4
    clear hb5
    have HRD : Hid (t.rda w5 (fun b => w.heap.size + 2 ≤ b ∧ b < w5.heap.size) (.slice A5 t.es.length n5) (.slice A6 t.ks.length n6)) := rda_up (fun _ _ => rfl) (fun b hb => ⟨by have := hb.1; omega, hb.2⟩) _ _ _ hrd
    clear hrd
    go_wp2_with fail
    obtain ⟨r0, r1, r2, r3⟩ := box_tree HG2.out HRD.out (fun b hb => by have := hb.1; omega)
    have r4 : ((w5.setCell ⟨w.heap.size, 0, none⟩ (.slice A5 t.es.length n5)).setCell ⟨w.heap.size, 1, none⟩ (.slice A6 t.ks.length n6)).heap[w.heap.size]? = some (.cells #[.slice A5 t.es.length n5, .slice A6 t.ks.length n6] 25 (0, 0)) := by simpa using cells_set (i := 1) (cells_set (i := 0) HG2.out (.slice A5 t.es.length n5)) (.slice A6 t.ks.length n6)
    have r5 : ((w5.setCell ⟨w.heap.size, 0, none⟩ (.slice A5 t.es.length n5)).setCell ⟨w.heap.size, 1, none⟩ (.slice A6 t.ks.length n6)).heap[w.heap.size + 1]? = some (.cells #[.slice none 0 0, .slice none 0 0] 25 (0, 0)) := (Below.heap_setCell _ _ _ _ (by simp)).trans ((Below.heap_setCell _ _ _ _ (by simp)).trans HG4.out)
    have r6 : Below w.heap.size w ((w5.setCell ⟨w.heap.size, 0, none⟩ (.slice A5 t.es.length n5)).setCell ⟨w.heap.size, 1, none⟩ (.slice A6 t.ks.length n6)) := (hB5.setCell (by simp) _).setCell (by simp) _
    clear c0 c1 k0 k1 y0 y1 z0 z1 hps HG2 HG4
    generalize ((w5.setCell ⟨w.heap.size, 0, none⟩ (.slice A5 t.es.length n5)).setCell ⟨w.heap.size, 1, none⟩ (.slice A6 t.ks.length n6)) = W5 at *
    go_loopw [6] (fun i wr => ∃ T Ae ne Ak nk, wr.heap[w.heap.size]? = some (.cells #[.slice Ae T.es.length ne, .slice Ak T.ks.length nk] 25 (0, 0)) ∧ T.rda wr (fun b => w.heap.size + 2 ≤ b ∧ b < wr.heap.size) (.slice Ae T.es.length ne) (.slice Ak T.ks.length nk) ∧
        wr.heap[w.heap.size + 1]? = some (.cells #[.slice none 0 0, .slice none 0 0] 25 (0, 0)) ∧ Below w.heap.size w wr ∧ w.heap.size + 2 ≤ wr.heap.size ∧ ((i = .int .i64 0 ∧ T = t) ∨ (i = .int .i64 (-1) ∧ Hid (empB t.es.length t.ks.length = false) ∧ T = .mk [] [(s, t)]))) (fun i _ => (intOf i + 1).toNat)
    case atStart => exact ⟨t, A5, n5, A6, n6, r4, by rw [r3]; exact r2, r5, r6, by omega, .inl ⟨rfl, rfl⟩⟩
    case round =>
      obtain ⟨T, Ae, ne, Ak, nk, hg2, hrd, hg4, hB, hsw, hT⟩ := hrel
      clear r0 r1 r2 r3 r4 r5 r6
      have c0 : wr.cell? ⟨w.heap.size, 0, none⟩ = some (.slice Ae T.es.length ne) := cell_cells (i := 0) hg2
      have c1 : wr.cell? ⟨w.heap.size, 1, none⟩ = some (.slice Ak T.ks.length nk) := cell_cells (i := 1) hg2
      have k0 : wr.cell? ⟨w.heap.size + 1, 0, none⟩ = some (.slice none 0 0) := cell_cells (i := 0) hg4
      have k1 : wr.cell? ⟨w.heap.size + 1, 1, none⟩ = some (.slice none 0 0) := cell_cells (i := 1) hg4
      have y0 := cells_frz (i := 0) hg2
      have y1 := cells_frz (i := 1) hg2
      have z0 := cells_frz (i := 0) hg4
      have z1 := cells_frz (i := 1) hg4
      have HG2 := hid hg2
      have HG4 := hid hg4
      have HRDW := hid hrd
      clear hg2 hg4 hrd
      rcases hT with ⟨rfl, hTt⟩ | ⟨rfl, hTt⟩
      · have hTt' := hTt.symm
        subst hTt'
        go_wp2_with fail
        refine (tempty_any t.es.length t.ks.length Ae Ak ne nk wr).mono ?_
        rw [hm]
        rintro e w6 ⟨rfl, hb6⟩
        have hs6 := hb6.size
        have hB6 : Below w.heap.size w w6 := hB.trans (hb6.mono (by omega))
        have g2 := (hb6.block _ (by omega)).trans HG2.out
        have g4 := (hb6.block _ (by omega)).trans HG4.out
        clear c0 c1 k0 k1 y0 y1 z0 z1
        have c0 : w6.cell? ⟨w.heap.size, 0, none⟩ = some (.slice Ae t.es.length ne) := cell_cells (i := 0) g2
        have c1 : w6.cell? ⟨w.heap.size, 1, none⟩ = some (.slice Ak t.ks.length nk) := cell_cells (i := 1) g2
        have k0 : w6.cell? ⟨w.heap.size + 1, 0, none⟩ = some (.slice none 0 0) := cell_cells (i := 0) g4
        have k1 : w6.cell? ⟨w.heap.size + 1, 1, none⟩ = some (.slice none 0 0) := cell_cells (i := 1) g4
        have z0 := cells_frz (i := 0) g4
        have z1 := cells_frz (i := 1) g4
        have HG4 := hid g4
        clear g2 g4 hm
        go_wp2_with fail
        obtain ⟨r0, r1, r2, r3⟩ := box_tree HG4.out (rda_up (fun b hb => hb6.block b hb.2) (fun b hb => (⟨hb.1, by have := hb.2; omega⟩ : w.heap.size + 2 ≤ b ∧ b < w6.heap.size)) _ _ _ HRDW.out) (fun b hb => by have := hb.1; omega)
        have hBW : Below w.heap.size w ((w6.setCell ⟨w.heap.size + 1, 0, none⟩ (.slice Ae t.es.length ne)).setCell ⟨w.heap.size + 1, 1, none⟩ (.slice Ak t.ks.length nk)) := (hB6.setCell (by simp) _).setCell (by simp) _
        generalize ((w6.setCell ⟨w.heap.size + 1, 0, none⟩ (.slice Ae t.es.length ne)).setCell ⟨w.heap.size + 1, 1, none⟩ (.slice Ak t.ks.length nk)) = W at *
        refine bodyPost_ret (v := .tuple #[.agg #[.slice Ae t.es.length ne, .slice Ak t.ks.length nk], .int .i64 0]) (by simp [results, Tryz.results70, go_sem, r0, r1]) rfl ⟨_, _, by rw [HE.out], by rw [HTT.out]; exact rda_up (fun _ _ => rfl) (fun b hb => ⟨by have := hb.1; omega, by have := hb.2; omega⟩) _ _ _ r2, hBW⟩
      · exact absurd (hTt.1.symm.trans hm) (by simp)
end Go.Proofs.YtdcmjmcipgadlaaGreat
