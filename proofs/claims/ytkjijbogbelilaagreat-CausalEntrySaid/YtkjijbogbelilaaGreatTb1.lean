/- What the laws need, part 1: tributarylaw09.small and right, at one and at two. No condition. Lists of what is known, in a block. No condition. Plain law: how big trees and contexts joined may be. No condition. Plain law: what is known, joined, as a lattice; many joined, in whatever order. No condition. slices.Equal at spans and at entries; slices.EqualFunc at kids. No condition. tree.same, tree.Same. No condition. context.Same. No condition but that there are not too many. causal.Same, causal.Leq, tributarylaw09.join. Condition: not too big. tributarylaw09.awake answers true. No condition. The law CausalLattice answers true. No condition. A law's argument that is a text. No condition. A law's argument that is what is known. No condition. The law CausalLeast answers true. No condition. -/
import Derived.Test.YtkjijbogbelilaaGreatTa6
namespace Go.Proofs.YtkjijbogbelilaaGreat
open Go.RowKit
set_option maxRecDepth 100000

/-- What one lies as: its tree and its context. -/
def CaE (w : World) (B : Nat) (x : Tr × List Sp) (cs : List Value) : Prop := ∃ ve vk vc, cs = [ve, vk, vc] ∧ x.1.rd w B ve vk ∧ SlP w B 3 SpE vc x.2
set_option maxHeartbeats 2000000 in
theorem small09_any (l : List (Tr × List Sp)) (vl : Value) (w : World) (h : SlP w w.heap.size 3 (CaE w w.heap.size) vl l) :
    Calls Tryz.prog 24 #[vl] w fun e w' => e = .returned (.bool (l.all fun x => sml9 x.1 x.2 40)) ∧ Below w.heap.size w w' := by
  obtain ⟨A, m, rfl, c1, c2, c3⟩ := h
  unfold Big at c2
  go_enter Tryz.func24, Tryz.ntmps24
  go_wp2_with fail
  go_loopw [6] (fun i wr => ∃ k : Nat, k ≤ l.length ∧ i = .int .i64 k ∧ Hid ((l.take k).all (fun x => sml9 x.1 x.2 40) = true) ∧ Below w.heap.size w wr) (fun i _ => l.length - (intOf i).toNat)
  case atStart => exact ⟨0, Nat.zero_le _, rfl, by unfold Hid; simp, Below.refl _ _⟩
  case round =>
    obtain ⟨k, hk, rfl, hall, hb⟩ := hrel
    by_cases hlt : k < l.length
    · obtain ⟨⟨t, c⟩, hx⟩ : ∃ x, l[k]? = some x := ⟨_, List.getElem?_eq_getElem hlt⟩
      obtain ⟨b, off, rfl, hbB, hc⟩ := c3 (by rintro rfl; simp at hlt)
      obtain ⟨cs, ⟨ve, vk, vc, rfl, hrd, hsl⟩, _, hu⟩ := hc k _ hx
      obtain ⟨A3, n3, A4, n4, rfl, rfl⟩ := rd_shape hrd
      obtain ⟨A5, n5, hv5, _⟩ := id hsl
      simp only at hv5 hrd hsl
      subst hv5
      have e0 : wr.cell? ⟨b, off + k * 3, none⟩ = some (.slice A3 t.es.length n3) := (hb.cell hbB).trans (hu 0 _ rfl)
      have e1 : wr.cell? ⟨b, off + k * 3 + 1, none⟩ = some (.slice A4 t.ks.length n4) := (hb.cell hbB).trans (hu 1 _ rfl)
      have e2 : wr.cell? ⟨b, off + k * 3 + 2, none⟩ = some (.slice A5 c.length n5) := (hb.cell hbB).trans (hu 2 _ rfl)
      have HRD := hid (rd_below hb hb.size _ _ _ hrd)
      have HSL : Hid (SlP wr wr.heap.size 3 SpE (.slice A5 c.length n5) c) := hsl.imp hb hb.size fun _ _ _ h => h
      have hmem := List.mem_of_getElem? hx
      have htk : l.take (k + 1) = l.take k ++ [(t, c)] := by rw [List.take_add_one, hx]; rfl
      have HTK := hid htk
      have HME := hid hmem
      clear hu hc c3 hx hrd hsl hmem htk
      go_wp2_with fail
      refine (r09small_any t c 40 _ _ _ wr HRD.out HSL.out (by omega) (by omega)).mono ?_
      cases hs : sml9 t c 40
      · rintro e w1 ⟨rfl, hb1⟩
        have HS := hid hs
        clear hs
        go_wp2_with fail
        go_ret
        exact ⟨ret_bool (List.all_eq_false.2 ⟨_, HME.out, by simp [HS.out]⟩).symm, hb.trans (hb1.mono hb.size)⟩
      · rintro e w1 ⟨rfl, hb1⟩
        have HS := hid hs
        clear hs
        go_wp2_with fail
        go_roundw
        case rel => exact ⟨k + 1, by omega, by go_num, by unfold Hid; rw [HTK.out, List.all_append, hall.out]; simp [HS.out], hb.trans (hb1.mono hb.size)⟩
        case measure => simp [intOf]; omega
    · obtain rfl : k = l.length := by omega
      rw [List.take_of_length_le (Nat.le_refl _)] at hall
      go_wp2_with fail
      go_ret
      exact ⟨ret_bool hall.out.symm, hb⟩
set_option maxHeartbeats 2000000 in
theorem right09_any (l : List (Tr × List Sp)) (vl : Value) (w : World) (h : SlP w w.heap.size 3 (CaE w w.heap.size) vl l) (hN : ∀ x ∈ l, x.1.sz ≤ 4000 ∧ x.2.length ≤ 20000) :
    Calls Tryz.prog 26 #[vl] w fun e w' => e = .returned (.bool (l.all fun x => caR x.1 x.2)) ∧ Below w.heap.size w w' := by
  obtain ⟨A, m, rfl, c1, c2, c3⟩ := h
  unfold Big at c2
  go_enter Tryz.func26, Tryz.ntmps26
  go_wp2_with fail
  go_loopw [6] (fun i wr => ∃ k : Nat, k ≤ l.length ∧ i = .int .i64 k ∧ Hid ((l.take k).all (fun x => caR x.1 x.2) = true) ∧ Below w.heap.size w wr) (fun i _ => l.length - (intOf i).toNat)
  case atStart => exact ⟨0, Nat.zero_le _, rfl, by unfold Hid; simp, Below.refl _ _⟩
  case round =>
    obtain ⟨k, hk, rfl, hall, hb⟩ := hrel
    by_cases hlt : k < l.length
    · obtain ⟨⟨t, c⟩, hx⟩ : ∃ x, l[k]? = some x := ⟨_, List.getElem?_eq_getElem hlt⟩
      obtain ⟨b, off, rfl, hbB, hc⟩ := c3 (by rintro rfl; simp at hlt)
      obtain ⟨cs, ⟨ve, vk, vc, rfl, hrd, hsl⟩, _, hu⟩ := hc k _ hx
      obtain ⟨A3, n3, A4, n4, rfl, rfl⟩ := rd_shape hrd
      obtain ⟨A5, n5, hv5, _⟩ := id hsl
      simp only at hv5 hrd hsl
      subst hv5
      have e0 : wr.cell? ⟨b, off + k * 3, none⟩ = some (.slice A3 t.es.length n3) := (hb.cell hbB).trans (hu 0 _ rfl)
      have e1 : wr.cell? ⟨b, off + k * 3 + 1, none⟩ = some (.slice A4 t.ks.length n4) := (hb.cell hbB).trans (hu 1 _ rfl)
      have e2 : wr.cell? ⟨b, off + k * 3 + 2, none⟩ = some (.slice A5 c.length n5) := (hb.cell hbB).trans (hu 2 _ rfl)
      have HRD := hid (rd_below hb hb.size _ _ _ hrd)
      have HSL : Hid (SlP wr wr.heap.size 3 SpE (.slice A5 c.length n5) c) := hsl.imp hb hb.size fun _ _ _ h => h
      have hmem := List.mem_of_getElem? hx
      have htk : l.take (k + 1) = l.take k ++ [(t, c)] := by rw [List.take_add_one, hx]; rfl
      have HTK := hid htk
      have HME := hid hmem
      have HN := hid (hN _ hmem)
      clear hu hc c3 hx hrd hsl hmem htk
      go_wp2_with fail
      have hr9 : r9R t c = caR t c := (caR_r9 t c).symm
      refine (r09right_any t c _ _ _ wr HRD.out HSL.out HN.out.1 HN.out.2).mono ?_
      rw [hr9]
      clear hr9
      cases hs : caR t c
      · rintro e w1 ⟨rfl, hb1⟩
        have HS := hid hs
        clear hs
        go_wp2_with fail
        go_ret
        exact ⟨ret_bool (List.all_eq_false.2 ⟨_, HME.out, by simp [HS.out]⟩).symm, hb.trans (hb1.mono hb.size)⟩
      · rintro e w1 ⟨rfl, hb1⟩
        have HS := hid hs
        clear hs
        go_wp2_with fail
        go_roundw
        case rel => exact ⟨k + 1, by omega, by go_num, by unfold Hid; rw [HTK.out, List.all_append, hall.out]; simp [HS.out], hb.trans (hb1.mono hb.size)⟩
        case measure => simp [intOf]; omega
    · obtain rfl : k = l.length := by omega
      rw [List.take_of_length_le (Nat.le_refl _)] at hall
      go_wp2_with fail
      go_ret
      exact ⟨ret_bool hall.out.symm, hb⟩
theorem sml9_sz {t : Tr} {c : List Sp} (h : sml9 t c 40 = true) : t.sz ≤ 40 ∧ c.length ≤ 40 := by
  unfold sml9 at h
  rw [Bool.and_eq_true] at h
  have h1 := sml_sz h.1
  have h2 := of_decide_eq_true h.2
  omega
end Go.Proofs.YtkjijbogbelilaaGreat

namespace Go.Proofs.YtkjijbogbelilaaGreat
open Go.RowKit
set_option maxRecDepth 100000

theorem slp3 {α : Type} {w : World} {g B : Nat} {E : α → List Value → Prop} {x y z : α} {a0 a1 a2 b0 b1 b2 c0 c1 c2 : Value} {e : TypeId} (hG : w.heap[g]? = some (.cells #[a0, a1, a2, b0, b1, b2, c0, c1, c2] e (0, 0))) (hx : E x [a0, a1, a2]) (hy : E y [b0, b1, b2]) (hz : E z [c0, c1, c2]) (hB : g < B) :
    SlP w B 3 E (.slice (some ⟨g, 0, none⟩) 3 3) [x, y, z] := by
  refine ⟨_, 3, rfl, Nat.le_refl _, by simp [Big], fun _ => ⟨_, 0, rfl, hB, fun j u hu => ?_⟩⟩
  match j, hu with
  | 0, hu =>
    simp at hu; subst hu
    refine ⟨_, hx, rfl, fun i v hi => ?_⟩
    match i, hi with
    | 0, hi => simp at hi; subst hi; exact cell_cells (i := 0) hG
    | 1, hi => simp at hi; subst hi; exact cell_cells (i := 1) hG
    | 2, hi => simp at hi; subst hi; exact cell_cells (i := 2) hG
    | i + 3, hi => simp at hi
  | 1, hu =>
    simp at hu; subst hu
    refine ⟨_, hy, rfl, fun i v hi => ?_⟩
    match i, hi with
    | 0, hi => simp at hi; subst hi; exact cell_cells (i := 3) hG
    | 1, hi => simp at hi; subst hi; exact cell_cells (i := 4) hG
    | 2, hi => simp at hi; subst hi; exact cell_cells (i := 5) hG
    | i + 3, hi => simp at hi
  | 2, hu =>
    simp at hu; subst hu
    refine ⟨_, hz, rfl, fun i v hi => ?_⟩
    match i, hi with
    | 0, hi => simp at hi; subst hi; exact cell_cells (i := 6) hG
    | 1, hi => simp at hi; subst hi; exact cell_cells (i := 7) hG
    | 2, hi => simp at hi; subst hi; exact cell_cells (i := 8) hG
    | i + 3, hi => simp at hi
  | j + 3, hu => simp at hu
theorem slp2 {α : Type} {w : World} {g B : Nat} {E : α → List Value → Prop} {x y : α} {a0 a1 a2 b0 b1 b2 : Value} {e : TypeId} (hG : w.heap[g]? = some (.cells #[a0, a1, a2, b0, b1, b2] e (0, 0))) (hx : E x [a0, a1, a2]) (hy : E y [b0, b1, b2]) (hB : g < B) :
    SlP w B 3 E (.slice (some ⟨g, 0, none⟩) 2 2) [x, y] := by
  refine ⟨_, 2, rfl, Nat.le_refl _, by simp [Big], fun _ => ⟨_, 0, rfl, hB, fun j u hu => ?_⟩⟩
  match j, hu with
  | 0, hu =>
    simp at hu; subst hu
    refine ⟨_, hx, rfl, fun i v hi => ?_⟩
    match i, hi with
    | 0, hi => simp at hi; subst hi; exact cell_cells (i := 0) hG
    | 1, hi => simp at hi; subst hi; exact cell_cells (i := 1) hG
    | 2, hi => simp at hi; subst hi; exact cell_cells (i := 2) hG
    | i + 3, hi => simp at hi
  | 1, hu =>
    simp at hu; subst hu
    refine ⟨_, hy, rfl, fun i v hi => ?_⟩
    match i, hi with
    | 0, hi => simp at hi; subst hi; exact cell_cells (i := 3) hG
    | 1, hi => simp at hi; subst hi; exact cell_cells (i := 4) hG
    | 2, hi => simp at hi; subst hi; exact cell_cells (i := 5) hG
    | i + 3, hi => simp at hi
  | j + 2, hu => simp at hu
theorem Calls.boolEq {P : Program} {f : FuncId} {args : Array Value} {w : World} {b c : Bool} (h : Calls P f args w fun e w' => e = .returned (.bool b) ∧ Below w.heap.size w w') (hb : b = c) : Calls P f args w fun e w' => e = .returned (.bool c) ∧ Below w.heap.size w w' := hb ▸ h
theorem z_newS {w1 w7 : World} {o : Obj} {a : Array Value} {e : TypeId} (hb : Below ((w1.alloc (.cells a e (0, 0))).alloc o).heap.size ((w1.alloc (.cells a e (0, 0))).alloc o) w7) : w7.heap[w1.heap.size]? = some (.cells a e (0, 0)) := (hb.block _ (by simp; omega)).trans ((heap_old (by simp)).trans (heap_new rfl))
theorem kn_at {W : World} {B : Nat} {t : Tr} {c : List Sp} {ve vk vc : Value} (h : t.rd W B ve vk) (hc : SlP W B 3 SpE vc c) : CaE W B (t, c) [ve, vk, vc] := ⟨_, _, _, rfl, h, hc⟩
end Go.Proofs.YtkjijbogbelilaaGreat

namespace Go.Proofs.YtkjijbogbelilaaGreat
open Go.RowKit
set_option maxRecDepth 100000

/-- How big a kid of a key is, with its key. -/
def kz : List Kd → ByteArray → Nat
  | [], _ => 0
  | (k, t) :: ks, q => if k = q then 1 + t.sz else kz ks q
theorem kz_kid (ks : List Kd) (q : ByteArray) (es : List En) : (kidT (.mk es ks) q).sz ≤ kz ks q ∧ ((∃ t, (q, t) ∈ ks) → (kidT (.mk es ks) q).sz + 1 ≤ kz ks q) := by
  unfold kidT
  simp only [Tr.ks]
  induction ks with
  | nil => simp [kz, Tr.sz, Tr.szL]
  | cons y ks ih =>
    obtain ⟨k, t⟩ := y
    rw [kz, List.find?_cons]
    by_cases h : k = q
    · subst h; simp; omega
    · simp only [h, decide_false, if_false]
      refine ⟨ih.1, fun ⟨t', hm⟩ => ih.2 ⟨t', ?_⟩⟩
      rcases List.mem_cons.1 hm with e | hm
      · cases e; exact absurd rfl h
      · exact hm
theorem sum_one (c : Nat) (q : ByteArray) : ∀ (K : List ByteArray), K.Nodup → (K.map fun k => if q = k then c else 0).sum ≤ c
  | [], _ => by simp
  | k :: K, h => by
    obtain ⟨h1, h2⟩ := List.nodup_cons.1 h
    rw [List.map_cons, List.sum_cons]
    by_cases e : q = k
    · have : (K.map fun k => if q = k then c else 0).sum = 0 := by
        have hz : (K.map fun k => if q = k then c else 0) = K.map fun _ => 0 := List.map_congr_left fun x hx => by
          rw [if_neg]; rintro rfl; exact h1 (e ▸ hx)
        rw [hz]; clear hz h1 h2 h
        induction K with
        | nil => rfl
        | cons _ _ ih => simp [ih]
      rw [if_pos e, this]; omega
    · rw [if_neg e]; have := sum_one c q K h2; omega
theorem sum_le {α : Type} (f g : α → Nat) : ∀ (K : List α), (∀ k ∈ K, f k ≤ g k) → (K.map f).sum ≤ (K.map g).sum
  | [], _ => by simp
  | k :: K, h => by
    have h1 := h k (by simp)
    have h2 := sum_le f g K fun k hk => h k (by simp [hk])
    simp only [List.map_cons, List.sum_cons]; omega
theorem sum_add {α : Type} (f g : α → Nat) : ∀ (K : List α), (K.map fun k => f k + g k).sum = (K.map f).sum + (K.map g).sum
  | [] => by simp
  | k :: K => by
    have h2 := sum_add f g K
    simp only [List.map_cons, List.sum_cons] at h2 ⊢; omega
theorem kz_sum : ∀ (ks : List Kd) (K : List ByteArray), K.Nodup → (K.map (kz ks)).sum ≤ Tr.szL ks
  | [], K, _ => by
    have : K.map (kz []) = K.map fun _ => 0 := List.map_congr_left fun _ _ => rfl
    rw [this]
    have : ∀ K : List ByteArray, (K.map fun _ => 0).sum = 0 := fun K => by induction K with | nil => rfl | cons _ _ ih => simp [ih]
    rw [this]; exact Nat.zero_le _
  | (k, t) :: ks, K, h => by
    have h1 := kz_sum ks K h
    have h2 := sum_one (1 + t.sz) k K h
    have h3 := sum_le (kz ((k, t) :: ks)) (fun q => (if k = q then 1 + t.sz else 0) + kz ks q) K fun q _ => by rw [kz]; split <;> omega
    rw [sum_add] at h3
    rw [Tr.szL]; omega
theorem szL_flat (f : ByteArray → Tr) (g : ByteArray → Nat) : ∀ (K : List ByteArray), (∀ k ∈ K, (f k).sz + 1 ≤ g k) → Tr.szL (K.flatMap (joinF f)) ≤ (K.map g).sum
  | [], _ => by simp [Tr.szL]
  | k :: K, h => by
    have h1 := h k (by simp)
    have h2 := szL_flat f g K fun k hk => h k (by simp [hk])
    rw [List.flatMap_cons, List.map_cons, List.sum_cons]
    unfold joinF at h2 ⊢
    split
    · simp; omega
    · simp [Tr.szL]; omega
theorem nodup_lt {K : List ByteArray} (h : K.Pairwise fun a b => ltS a b = true) : K.Nodup :=
  h.imp fun {a b} hab e => by subst e; rw [ltS_irrefl] at hab; cases hab
theorem join_sz (ca cb : List Sp) : ∀ (n : Nat) (a b : Tr), a.Ord → b.Ord → a.dep ≤ n → b.dep ≤ n → (joinT n ca cb a b).sz ≤ a.sz + b.sz := by
  intro n
  induction n with
  | zero => intro a b _ _ h _; have := dep_pos a; omega
  | succ n ih =>
  intro a b ha hb hda hdb
  obtain ⟨hk1, hk2⟩ := joinK_spec a b
  have hN := nodup_lt hk1
  rw [joinT, Tr.sz]
  have h1 := entL_len ca cb _ a.es b.es (Nat.le_refl _)
  have h2 := szL_flat (fun k => joinT n ca cb (kidT a k) (kidT b k)) (fun k => kz a.ks k + kz b.ks k) (joinK a b) fun k hk => by
    have h3 := ih (kidT a k) (kidT b k) (kidT_ord ha k) (kidT_ord hb k) (kidT_dep ha hda (joinK_dep hda hdb hk) k) (kidT_dep hb hdb (joinK_dep hda hdb hk) k)
    have h4 := kz_kid a.ks k a.es
    have h5 := kz_kid b.ks k b.es
    have e1 : Tr.mk a.es a.ks = a := by cases a; rfl
    have e2 : Tr.mk b.es b.ks = b := by cases b; rfl
    rw [e1] at h4
    rw [e2] at h5
    obtain ⟨t, h | h⟩ := (hk2 k).1 hk
    · have := h4.2 ⟨t, h⟩; omega
    · have := h5.2 ⟨t, h⟩; omega
  rw [sum_add] at h2
  have h3 := kz_sum a.ks _ hN
  have h4 := kz_sum b.ks _ hN
  have e1 : a.sz = a.es.length + Tr.szL a.ks := by cases a; rw [Tr.sz]; rfl
  have e2 : b.sz = b.es.length + Tr.szL b.ks := by cases b; rw [Tr.sz]; rfl
  omega
theorem jT_sz {a b : Tr} {ca cb : List Sp} (ha : CaOk a ca) (hb : CaOk b cb) : (jT a b ca cb).sz ≤ a.sz + b.sz := join_sz ca cb 6 a b ha.ord hb.ord ha.dep hb.dep
theorem union_len {a b : List (Int × Int)} (ha : runsR none a = true) (hb : runsR none b = true) : (byL a b 0).length ≤ a.length + b.length := by
  have hp := List.mergeSort_perm (a ++ b) fun x y => decide (x.1 ≤ y.1)
  have hs : ((a ++ b).mergeSort fun x y => decide (x.1 ≤ y.1)).Pairwise fun x y => x.1 ≤ y.1 :=
    (List.pairwise_mergeSort (fun a b c h k => by simp at h k ⊢; omega) (fun a b => by simp; omega) (a ++ b)).imp fun h => by simpa using h
  rw [← join_union ha hb hp hs]
  have h := joinL_len ((a ++ b).mergeSort fun x y => decide (x.1 ≤ y.1)) (((a ++ b).mergeSort fun x y => decide (x.1 ≤ y.1)).length)
  rw [List.take_of_length_le (Nat.le_refl _), hp.length_eq, List.length_append] at h
  exact h
theorem dc_len (c : List Sp) (h : ∀ s ∈ c, 0 ≤ s.dc ∧ s.dc < 4) : (partL c 0).length + (partL c 1).length + (partL c 2).length + (partL c 3).length = c.length := by
  induction c with
  | nil => rfl
  | cons s c ih =>
    have h1 := ih fun s hs => h s (by simp [hs])
    have h2 := h s (by simp)
    obtain ⟨dc, fr, hi⟩ := s
    simp only at h2
    have h3 : dc = 0 ∨ dc = 1 ∨ dc = 2 ∨ dc = 3 := by omega
    unfold partL at h1 ⊢
    simp only [List.length_map] at h1 ⊢
    rcases h3 with rfl | rfl | rfl | rfl <;> simp <;> omega
theorem jC_len {a b : List Sp} (ha : apartB a = true) (hb : apartB b = true) : (jC a b).length ≤ a.length + b.length := by
  have h := apart_by ha hb 0
  have hdc : ∀ {c : List Sp}, apartB c = true → ∀ s ∈ c, 0 ≤ s.dc ∧ s.dc < 4 := fun {c} hc => apart_dcs c 0 (by unfold apartB at hc; rw [Bool.and_eq_true] at hc; exact hc.1)
  have e1 := dc_len a (hdc ha)
  have e2 := dc_len b (hdc hb)
  have e3 := dc_len (jC a b) (hdc h)
  have p0 : partL (jC a b) 0 = byL (partL a 0) (partL b 0) 0 := part_ctxBy a b 0 (i := 0) (by omega)
  have p1 : partL (jC a b) 1 = byL (partL a 1) (partL b 1) 0 := part_ctxBy a b 0 (i := 1) (by omega)
  have p2 : partL (jC a b) 2 = byL (partL a 2) (partL b 2) 0 := part_ctxBy a b 0 (i := 2) (by omega)
  have p3 : partL (jC a b) 3 = byL (partL a 3) (partL b 3) 0 := part_ctxBy a b 0 (i := 3) (by omega)
  have u0 : (byL (partL a 0) (partL b 0) 0).length ≤ (partL a 0).length + (partL b 0).length := union_len (apart_part ha (i := 0) (by omega)) (apart_part hb (i := 0) (by omega))
  have u1 : (byL (partL a 1) (partL b 1) 0).length ≤ (partL a 1).length + (partL b 1).length := union_len (apart_part ha (i := 1) (by omega)) (apart_part hb (i := 1) (by omega))
  have u2 : (byL (partL a 2) (partL b 2) 0).length ≤ (partL a 2).length + (partL b 2).length := union_len (apart_part ha (i := 2) (by omega)) (apart_part hb (i := 2) (by omega))
  have u3 : (byL (partL a 3) (partL b 3) 0).length ≤ (partL a 3).length + (partL b 3).length := union_len (apart_part ha (i := 3) (by omega)) (apart_part hb (i := 3) (by omega))
  rw [← p0] at u0
  rw [← p1] at u1
  rw [← p2] at u2
  rw [← p3] at u3
  omega
end Go.Proofs.YtkjijbogbelilaaGreat

namespace Go.Proofs.YtkjijbogbelilaaGreat
open Go.RowKit
set_option maxRecDepth 100000

abbrev Kn := Tr × List Sp
abbrev KOk (x : Kn) : Prop := CaOk x.1 x.2
def jn (x y : Kn) : Kn := (jT x.1 y.1 x.2 y.2, jC x.2 y.2)
def kn0 : Kn := (.mk [] [], [])
theorem kn0_ok : KOk kn0 := CaOk.nil
theorem jn_okK {x y : Kn} (hx : KOk x) (hy : KOk y) : KOk (jn x y) := jT_ok hx hy
theorem jn_idem {x : Kn} (hx : KOk x) : jn x x = x := Prod.ext (join_idem hx).1 (join_idem hx).2
theorem jn_comm {x y : Kn} (hx : KOk x) (hy : KOk y) : jn x y = jn y x := Prod.ext (join_comm hx hy).1 (join_comm hx hy).2
theorem jn_assoc {x y z : Kn} (hx : KOk x) (hy : KOk y) (hz : KOk z) : jn (jn x y) z = jn x (jn y z) := Prod.ext (join_assoc hx hy hz).1 (join_assoc hx hy hz).2
theorem jn_nil {x : Kn} (hx : KOk x) : jn kn0 x = x := Prod.ext (join_nil hx).1 (join_nil hx).2
theorem jn_right {x y z : Kn} (hx : KOk x) (hy : KOk y) (hz : KOk z) : jn (jn x y) z = jn (jn x z) y := by
  rw [jn_assoc hx hy hz, jn_comm hy hz, jn_assoc hx hz hy]
def caK (x : Kn) : Bool := caR x.1 x.2
theorem caK_iff {x : Kn} : caK x = true ↔ KOk x := caR_iff
theorem jn_sz {x y : Kn} (hx : KOk x) (hy : KOk y) : (jn x y).1.sz ≤ x.1.sz + y.1.sz ∧ (jn x y).2.length ≤ x.2.length + y.2.length := ⟨jT_sz hx hy, jC_len hx.ap hy.ap⟩
/-- All joined. -/
def jnL (l : List Kn) : Kn := l.foldl jn kn0
theorem jnL_snoc (l : List Kn) (x : Kn) : jnL (l ++ [x]) = jn (jnL l) x := by unfold jnL; rw [List.foldl_append]; rfl
theorem foldl_ok : ∀ (l : List Kn) (z : Kn), KOk z → (∀ x ∈ l, KOk x) → KOk (l.foldl jn z)
  | [], _, hz, _ => hz
  | x :: l, z, hz, h => foldl_ok l (jn z x) (jn_okK hz (h x (by simp))) fun y hy => h y (by simp [hy])
theorem jnL_ok {l : List Kn} (h : ∀ x ∈ l, KOk x) : KOk (jnL l) := foldl_ok l kn0 kn0_ok h
theorem foldl_perm {l m : List Kn} (hp : l.Perm m) : ∀ z, KOk z → (∀ x ∈ l, KOk x) → l.foldl jn z = m.foldl jn z := by
  induction hp with
  | nil => intro z _ _; rfl
  | cons x _ ih => intro z hz h; exact ih (jn z x) (jn_okK hz (h x (by simp))) fun y hy => h y (by simp [hy])
  | swap x y l => intro z hz h; simp only [List.foldl_cons]; rw [jn_right hz (h y (by simp)) (h x (by simp))]
  | trans h1 _ ih1 ih2 => intro z hz h; rw [ih1 z hz h, ih2 z hz fun x hx => h x (h1.symm.subset hx)]
theorem jnL_perm {l m : List Kn} (hp : l.Perm m) (h : ∀ x ∈ l, KOk x) : jnL l = jnL m := foldl_perm hp kn0 kn0_ok h
theorem foldl_sz : ∀ (l : List Kn) (z : Kn), KOk z → (∀ x ∈ l, KOk x) → (l.foldl jn z).1.sz ≤ z.1.sz + (l.map fun x => x.1.sz).sum ∧ (l.foldl jn z).2.length ≤ z.2.length + (l.map fun x => x.2.length).sum
  | [], _, _, _ => by simp
  | x :: l, z, hz, h => by
    have h1 := jn_sz hz (h x (by simp))
    have h2 := foldl_sz l (jn z x) (jn_okK hz (h x (by simp))) fun y hy => h y (by simp [hy])
    simp only [List.foldl_cons, List.map_cons, List.sum_cons]; omega
/-- What causal.JoinAll tells. -/
def jaK (l : List Kn) : Bool := l.all caK
def jaE (l : List Kn) : Int := if jaK l then 0 else 1
def jaR (l : List Kn) : Kn := if jaK l then jnL l else kn0
theorem jaK_iff {l : List Kn} : jaK l = true ↔ ∀ x ∈ l, KOk x := by
  unfold jaK; rw [List.all_eq_true]; exact forall_congr' fun x => forall_congr' fun _ => caK_iff
theorem jaK_perm {l m : List Kn} (hp : l.Perm m) : jaK l = jaK m := by
  rw [Bool.eq_iff_iff, jaK_iff, jaK_iff]
  exact ⟨fun h x hx => h x (hp.symm.subset hx), fun h x hx => h x (hp.subset hx)⟩
theorem jaR_perm {l m : List Kn} (hp : l.Perm m) : jaR l = jaR m := by
  unfold jaR
  rw [← jaK_perm hp]
  split
  · rename_i h; exact jnL_perm hp (jaK_iff.1 h)
  · rfl
theorem ja_ok {l : List Kn} (h : ∀ x ∈ l, KOk x) : jaE l = 0 ∧ jaR l = jnL l ∧ KOk (jaR l) := by
  unfold jaE jaR
  rw [jaK_iff.2 h]
  exact ⟨rfl, rfl, jnL_ok h⟩
theorem jnL_two {x y : Kn} (hx : KOk x) : jnL [x, y] = jn x y := by show jn (jn kn0 x) y = _; rw [jn_nil hx]
theorem jnL_three {x y z : Kn} (hx : KOk x) : jnL [x, y, z] = jn (jn x y) z := by show jn (jn (jn kn0 x) y) z = _; rw [jn_nil hx]
/-- At most. -/
def leK (x y : Kn) : Prop := jn x y = y
end Go.Proofs.YtkjijbogbelilaaGreat

namespace Go.Proofs.YtkjijbogbelilaaGreat
open Go.RowKit
set_option maxRecDepth 100000

set_option maxHeartbeats 1000000 in
theorem eqSps_any (a b : List Sp) (va vb : Value) (w : World) (B : Nat) (ha : SlP w B 3 SpE va a) (hb : SlP w B 3 SpE vb b) :
    Calls Tryz.prog 135 #[va, vb] w fun e w' => e = .returned (.bool (decide (a = b))) ∧ ∃ n, w' = w.drewN n := by
  obtain ⟨A1, n1, rfl, b1, b2, b3⟩ := ha
  obtain ⟨A2, n2, rfl, c1, c2, c3⟩ := hb
  unfold Big at b2 c2
  by_cases hl : a.length = b.length
  · have hl' : ((a.length : Int) != (b.length : Int)) = false := by simp [hl]
    have HL := hid hl
    clear hl
    have gg := guardSpan
    have nn := neqSpan
    go_enter Tryz.func135, Tryz.ntmps135
    go_wp2_with fail
    go_loopw [13] (fun i wr => ∃ k : Nat, k ≤ a.length ∧ i = .int .i64 k ∧ Hid (a.take k = b.take k) ∧ ∃ n, wr = w.drewN n) (fun i _ => a.length - (intOf i).toNat)
    case atStart => exact ⟨0, Nat.zero_le _, rfl, rfl, 0, rfl⟩
    case round =>
      obtain ⟨k, hk, rfl, hrel, q, rfl⟩ := hrel
      by_cases hlt : k < a.length
      · have hlt2 : k < b.length := by have := HL.out; omega
        obtain ⟨x, hx⟩ : ∃ x, a[k]? = some x := ⟨_, List.getElem?_eq_getElem hlt⟩
        obtain ⟨y, hy⟩ : ∃ y, b[k]? = some y := ⟨_, List.getElem?_eq_getElem hlt2⟩
        obtain ⟨ba, oa, rfl, hbA, hc⟩ := b3 (by rintro rfl; simp at hlt)
        obtain ⟨bb, ob, rfl, hbB, hd⟩ := c3 (by rintro rfl; simp at hlt2)
        obtain ⟨cs, ⟨rfl, hok⟩, _, hu⟩ := hc k _ hx
        obtain ⟨ds, ⟨rfl, hok2⟩, _, hv⟩ := hd k _ hy
        have e0 : w.cell? ⟨ba, oa + k * 3, none⟩ = some (.int .i64 x.dc) := hu 0 _ rfl
        have e1 : w.cell? ⟨ba, oa + k * 3 + 1, none⟩ = some (.int .i64 x.fr) := hu 1 _ rfl
        have e2 : w.cell? ⟨ba, oa + k * 3 + 2, none⟩ = some (.int .i64 x.hi) := hu 2 _ rfl
        have g0 : w.cell? ⟨bb, ob + k * 3, none⟩ = some (.int .i64 y.dc) := hv 0 _ rfl
        have g1 : w.cell? ⟨bb, ob + k * 3 + 1, none⟩ = some (.int .i64 y.fr) := hv 1 _ rfl
        have g2 : w.cell? ⟨bb, ob + k * 3 + 2, none⟩ = some (.int .i64 y.hi) := hv 2 _ rfl
        have HT := hid (take_eq_succ hx hy hrel.out)
        have HXY : Hid (a = b → x = y) := fun e => by subst e; rw [hx] at hy; exact Option.some.inj hy
        have hi1 : ((k : Int)) < (a.length : Int) := by omega
        have hi2 : ((k : Int)) < (b.length : Int) := by omega
        clear hu hv hc hd b3 c3 hx hy hok hok2
        rcases hxy : decide (x = y)
        · have hne : x ≠ y := by simpa using hxy
          go_wp2_with fail
          go_quiet (fail)
          go_wp2_with fail
          go_ret
          exact ⟨ret_bool (by simpa using fun e => hne (HXY.out e)), q + nq, by first | rfl | exact World.drewN_drewN _ _ _⟩
        · have hE := hid (of_decide_eq_true hxy)
          go_wp2_with fail
          go_quiet (fail)
          go_wp2_with fail
          go_roundw
          case rel => exact ⟨k + 1, by omega, by go_num, HT.out.2 hE.out, q + nq, by first | rfl | exact World.drewN_drewN _ _ _⟩
          case measure => simp [intOf]; omega
      · obtain rfl : k = a.length := by omega
        have HR := hid hrel.out
        clear hrel
        go_wp2_with fail
        go_ret
        refine ⟨ret_bool ?_, q, rfl⟩
        have h1 := HR.out
        rw [List.take_of_length_le (Nat.le_refl _), List.take_of_length_le (by rw [HL.out]; exact Nat.le_refl _)] at h1
        simp [h1]
  · have hl' : ((a.length : Int) != (b.length : Int)) = true := by simp; omega
    have HL := hid hl
    clear hl
    go_enter Tryz.func135, Tryz.ntmps135
    go_wp2_with fail
    go_ret
    refine ⟨ret_bool ?_, 0, rfl⟩
    have : a ≠ b := fun e => HL.out (by rw [e])
    simp [this]
set_option maxHeartbeats 1000000 in
theorem eqEnts_any (a b : List En) (va vb : Value) (w : World) (B : Nat) (ha : SlP w B 4 EnE va a) (hb : SlP w B 4 EnE vb b) :
    Calls Tryz.prog 156 #[va, vb] w fun e w' => e = .returned (.bool (decide (a = b))) ∧ ∃ n, w' = w.drewN n := by
  obtain ⟨A1, n1, rfl, b1, b2, b3⟩ := ha
  obtain ⟨A2, n2, rfl, c1, c2, c3⟩ := hb
  unfold Big at b2 c2
  by_cases hl : a.length = b.length
  · have hl' : ((a.length : Int) != (b.length : Int)) = false := by simp [hl]
    have HL := hid hl
    clear hl
    have gg := guardEntry
    have nn := neqEntry
    go_enter Tryz.func156, Tryz.ntmps156
    go_wp2_with fail
    go_loopw [13] (fun i wr => ∃ k : Nat, k ≤ a.length ∧ i = .int .i64 k ∧ Hid (a.take k = b.take k) ∧ ∃ n, wr = w.drewN n) (fun i _ => a.length - (intOf i).toNat)
    case atStart => exact ⟨0, Nat.zero_le _, rfl, rfl, 0, rfl⟩
    case round =>
      obtain ⟨k, hk, rfl, hrel, q, rfl⟩ := hrel
      by_cases hlt : k < a.length
      · have hlt2 : k < b.length := by have := HL.out; omega
        obtain ⟨x, hx⟩ : ∃ x, a[k]? = some x := ⟨_, List.getElem?_eq_getElem hlt⟩
        obtain ⟨y, hy⟩ : ∃ y, b[k]? = some y := ⟨_, List.getElem?_eq_getElem hlt2⟩
        obtain ⟨ba, oa, rfl, hbA, hc⟩ := b3 (by rintro rfl; simp at hlt)
        obtain ⟨bb, ob, rfl, hbB, hd⟩ := c3 (by rintro rfl; simp at hlt2)
        obtain ⟨cs, ⟨rfl, hok⟩, _, hu⟩ := hc k _ hx
        obtain ⟨ds, ⟨rfl, hok2⟩, _, hv⟩ := hd k _ hy
        have e0 : w.cell? ⟨ba, oa + k * 4, none⟩ = some (.int .i64 x.dc) := hu 0 _ rfl
        have e1 : w.cell? ⟨ba, oa + k * 4 + 1, none⟩ = some (.int .i64 x.n) := hu 1 _ rfl
        have e2 : w.cell? ⟨ba, oa + k * 4 + 2, none⟩ = some (.string x.s) := hu 2 _ rfl
        have e3 : w.cell? ⟨ba, oa + k * 4 + 3, none⟩ = some (.int .i64 x.v) := hu 3 _ rfl
        have g0 : w.cell? ⟨bb, ob + k * 4, none⟩ = some (.int .i64 y.dc) := hv 0 _ rfl
        have g1 : w.cell? ⟨bb, ob + k * 4 + 1, none⟩ = some (.int .i64 y.n) := hv 1 _ rfl
        have g2 : w.cell? ⟨bb, ob + k * 4 + 2, none⟩ = some (.string y.s) := hv 2 _ rfl
        have g3 : w.cell? ⟨bb, ob + k * 4 + 3, none⟩ = some (.int .i64 y.v) := hv 3 _ rfl
        have HT := hid (take_eq_succ hx hy hrel.out)
        have HXY : Hid (a = b → x = y) := fun e => by subst e; rw [hx] at hy; exact Option.some.inj hy
        have hi1 : ((k : Int)) < (a.length : Int) := by omega
        have hi2 : ((k : Int)) < (b.length : Int) := by omega
        clear hu hv hc hd b3 c3 hx hy hok hok2
        rcases hxy : decide (x = y)
        · have hne : x ≠ y := by simpa using hxy
          go_wp2_with fail
          go_quiet (fail)
          go_wp2_with fail
          go_ret
          exact ⟨ret_bool (by simpa using fun e => hne (HXY.out e)), q + nq, by first | rfl | exact World.drewN_drewN _ _ _⟩
        · have hE := hid (of_decide_eq_true hxy)
          go_wp2_with fail
          go_quiet (fail)
          go_wp2_with fail
          go_roundw
          case rel => exact ⟨k + 1, by omega, by go_num, HT.out.2 hE.out, q + nq, by first | rfl | exact World.drewN_drewN _ _ _⟩
          case measure => simp [intOf]; omega
      · obtain rfl : k = a.length := by omega
        have HR := hid hrel.out
        clear hrel
        go_wp2_with fail
        go_ret
        refine ⟨ret_bool ?_, q, rfl⟩
        have h1 := HR.out
        rw [List.take_of_length_le (Nat.le_refl _), List.take_of_length_le (by rw [HL.out]; exact Nat.le_refl _)] at h1
        simp [h1]
  · have hl' : ((a.length : Int) != (b.length : Int)) = true := by simp; omega
    have HL := hid hl
    clear hl
    go_enter Tryz.func156, Tryz.ntmps156
    go_wp2_with fail
    go_ret
    refine ⟨ret_bool ?_, 0, rfl⟩
    have : a ≠ b := fun e => HL.out (by rw [e])
    simp [this]
open Classical in
noncomputable def ksEq (a b : List Kd) : Bool := decide (a = b)
theorem ksEq_iff {a b : List Kd} : ksEq a b = true ↔ a = b := by simp [ksEq]
theorem ksEq_no {a b : List Kd} : ksEq a b = false ↔ a ≠ b := by simp [ksEq]
open Classical in
noncomputable def kdEq (a b : Kd) : Bool := decide (a = b)
theorem kdEq_iff {a b : Kd} : kdEq a b = true ↔ a = b := by simp [kdEq]
theorem kdEq_no {a b : Kd} : kdEq a b = false ↔ a ≠ b := by simp [kdEq]
/-- A test on two kids: are they alike? -/
def TestKids (g : Nat) (l m : List Kd) (w : World) : Prop :=
  (∀ args W, (callFunc g args).run Tryz.prog W = .ok (.enter g args) W) ∧
  ∀ (x : Kd) (y : Kd) (xe xk ye yk : Value) (W : World), x ∈ l → y ∈ m → Below w.heap.size w W → x.2.rd W W.heap.size xe xk → y.2.rd W W.heap.size ye yk → Calls Tryz.prog g #[.agg #[.string x.1, xe, xk], .agg #[.string y.1, ye, yk]] W fun e w' => e = .returned (.bool (kdEq x y)) ∧ Below W.heap.size W w'
set_option maxHeartbeats 2000000 in
theorem eqKids_any (g : Nat) (l m : List Kd) (vl vm : Value) (w : World) (h : SlP w w.heap.size 3 (KdE w w.heap.size) vl l) (h' : SlP w w.heap.size 3 (KdE w w.heap.size) vm m) (ht : TestKids g l m w) :
    Calls Tryz.prog 157 #[vl, vm, .func (.func g) #[] #[]] w fun e w' => e = .returned (.bool (ksEq l m)) ∧ Below w.heap.size w w' := by
  obtain ⟨A1, n1, rfl, b1, b2, b3⟩ := h
  obtain ⟨A2, n2, rfl, c1, c2, c3⟩ := h'
  obtain ⟨eg, ht⟩ := ht
  unfold Big at b2 c2
  by_cases hl : l.length = m.length
  case neg =>
    have hl' : ((l.length : Int) != (m.length : Int)) = true := by simp; omega
    have HL := hid hl
    clear hl
    go_enter Tryz.func157, Tryz.ntmps157
    go_wp2_with fail
    go_ret
    exact ⟨ret_bool (by rw [eq_comm, ksEq_no]; rintro rfl; exact HL.out rfl), Below.refl _ _⟩
  have hl' : ((l.length : Int) != (m.length : Int)) = false := by simp [hl]
  have HL := hid hl
  clear hl
  go_enter Tryz.func157, Tryz.ntmps157
  go_wp2_with fail
  go_loopw [17] (fun i wr => ∃ k : Nat, k ≤ l.length ∧ i = .int .i64 k ∧ Hid (l.take k = m.take k) ∧ Below w.heap.size w wr) (fun i _ => l.length - (intOf i).toNat)
  case atStart => exact ⟨0, Nat.zero_le _, rfl, rfl, Below.refl _ _⟩
  case round =>
    obtain ⟨k, hk, rfl, hrel, hb⟩ := hrel
    have hsz := hb.size
    by_cases hlt : k < l.length
    · have hlt2 : k < m.length := by have := HL.out; omega
      obtain ⟨⟨xk, xt⟩, hx⟩ : ∃ x, l[k]? = some x := ⟨_, List.getElem?_eq_getElem hlt⟩
      obtain ⟨⟨yk, yt⟩, hy⟩ : ∃ y, m[k]? = some y := ⟨_, List.getElem?_eq_getElem hlt2⟩
      obtain ⟨ba, oa, rfl, hbA, hc⟩ := b3 (by rintro rfl; simp at hlt)
      obtain ⟨bb, ob, rfl, hbB, hd⟩ := c3 (by rintro rfl; simp at hlt2)
      obtain ⟨cs, ⟨v1, v2, rfl, _, hrs⟩, _, hu⟩ := hc k _ hx
      obtain ⟨ds, ⟨u1, u2, rfl, _, hrt⟩, _, hv⟩ := hd k _ hy
      simp only at hrs hrt
      have e0 : wr.cell? ⟨ba, oa + k * 3, none⟩ = some (.string xk) := (hb.cell hbA).trans (hu 0 _ rfl)
      have e1 : wr.cell? ⟨ba, oa + k * 3 + 1, none⟩ = some v1 := (hb.cell hbA).trans (hu 1 _ rfl)
      have e2 : wr.cell? ⟨ba, oa + k * 3 + 2, none⟩ = some v2 := (hb.cell hbA).trans (hu 2 _ rfl)
      have g0 : wr.cell? ⟨bb, ob + k * 3, none⟩ = some (.string yk) := (hb.cell hbB).trans (hv 0 _ rfl)
      have g1 : wr.cell? ⟨bb, ob + k * 3 + 1, none⟩ = some u1 := (hb.cell hbB).trans (hv 1 _ rfl)
      have g2 : wr.cell? ⟨bb, ob + k * 3 + 2, none⟩ = some u2 := (hb.cell hbB).trans (hv 2 _ rfl)
      have HT := hid (take_eq_succ hx hy hrel.out)
      have HXY : Hid (l = m → (xk, xt) = (yk, yt)) := fun e => by rw [e] at hx; rw [hx] at hy; exact Option.some.inj hy
      have hB2 : Below w.heap.size w ((wr.alloc (.cells #[.string xk, v1, v2] 109)).alloc (.cells #[.string yk, u1, u2] 109)) := (hb.alloc hsz _).alloc (by simp; omega) _
      have hcall := ht (xk, xt) (yk, yt) v1 v2 u1 u2 _ (List.mem_of_getElem? hx) (List.mem_of_getElem? hy) hB2 (rd_below hB2 hB2.size _ _ _ hrs) (rd_below hB2 hB2.size _ _ _ hrt)
      have HB2 := hid hB2
      obtain ⟨A3, n3, A4, n4, rfl, rfl⟩ := rd_shape hrs
      obtain ⟨A5, n5, A6, n6, rfl, rfl⟩ := rd_shape hrt
      have h1 : ba < wr.heap.size := by omega
      have h2 : bb < wr.heap.size := by omega
      have h3 : bb ≠ wr.heap.size := by omega
      have hi2 : ((k : Int)) < (m.length : Int) := by omega
      clear hu hv hc hd b3 c3 hx hy hrs hrt ht hB2
      cases hq : kdEq (xk, xt) (yk, yt)
      · rw [hq] at hcall
        have HQ := hid (kdEq_no.1 hq)
        clear hq
        go_wp2_with (go_at_fn g; refine hcall.mono ?_; rintro e w1 ⟨rfl, hb1⟩)
        go_ret
        exact ⟨ret_bool (by rw [eq_comm, ksEq_no]; exact fun e => HQ.out (HXY.out e)), HB2.out.trans (hb1.mono HB2.out.size)⟩
      · rw [hq] at hcall
        have HQ := hid (kdEq_iff.1 hq)
        clear hq
        go_wp2_with (go_at_fn g; refine hcall.mono ?_; rintro e w1 ⟨rfl, hb1⟩)
        go_roundw
        case rel => exact ⟨k + 1, by omega, by go_num, HT.out.2 HQ.out, HB2.out.trans (hb1.mono HB2.out.size)⟩
        case measure => simp [intOf]; omega
    · obtain rfl : k = l.length := by omega
      have HK : Hid (l = m) := by
        have h1 := hrel.out
        rw [List.take_of_length_le (Nat.le_refl _), List.take_of_length_le (by rw [HL.out]; exact Nat.le_refl _)] at h1
        exact h1
      go_wp2_with fail
      go_ret
      exact ⟨ret_bool (by rw [eq_comm, ksEq_iff]; exact HK.out), hb⟩
end Go.Proofs.YtkjijbogbelilaaGreat

namespace Go.Proofs.YtkjijbogbelilaaGreat
open Go.RowKit
set_option maxRecDepth 100000

set_option maxHeartbeats 2000000 in
theorem tsameClo_any (x y : Kd) (xe xk ye yk : Value) (W : World) (hx : x.2.rd W W.heap.size xe xk) (hy : y.2.rd W W.heap.size ye yk)
    (hc : ∀ W', Below W.heap.size W W' → Calls Tryz.prog 121 #[.agg #[xe, xk], .agg #[ye, yk]] W' fun e w' => e = .returned (.bool (trEq x.2 y.2)) ∧ Below W'.heap.size W' w') :
    Calls Tryz.prog 158 #[.agg #[.string x.1, xe, xk], .agg #[.string y.1, ye, yk]] W fun e w' => e = .returned (.bool (kdEq x y)) ∧ Below W.heap.size W w' := by
  obtain ⟨xn, xt⟩ := x
  obtain ⟨yn, yt⟩ := y
  simp only at hx hy hc
  obtain ⟨A3, n3, A4, n4, rfl, rfl⟩ := rd_shape hx
  obtain ⟨A5, n5, A6, n6, rfl, rfl⟩ := rd_shape hy
  have hB : Below W.heap.size W ((W.alloc (.cells #[.string xn, .slice A3 xt.es.length n3, .slice A4 xt.ks.length n4] 109)).alloc (.cells #[.string yn, .slice A5 yt.es.length n5, .slice A6 yt.ks.length n6] 109)) := ((Below.refl _ W).alloc (Nat.le_refl _) _).alloc (by simp) _
  have hcall := hc _ hB
  have HB := hid hB
  clear hx hy hB hc
  rcases hxy : (xn.toList == yn.toList)
  · have hne : xn ≠ yn := fun e => by rw [e] at hxy; simp at hxy
    go_enter Tryz.func158, Tryz.ntmps158
    go_wp2_with fail
    go_ret
    exact ⟨ret_bool (by rw [eq_comm, kdEq_no]; intro e; cases e; exact hne rfl), HB.out⟩
  · have hE := hid ((bytes_inj xn yn).1 (by simpa using hxy))
    cases hst : trEq xt yt
    · have hne := trEq_no.1 hst
      rw [hst] at hcall
      clear hst
      go_enter Tryz.func158, Tryz.ntmps158
      go_wp2_with (go_at_call 121; refine hcall.mono ?_; rintro e w1 ⟨rfl, hb1⟩)
      go_ret
      exact ⟨ret_bool (by rw [eq_comm, kdEq_no]; intro e; cases e; exact hne rfl), HB.out.trans (hb1.mono HB.out.size)⟩
    · have HT := hid (trEq_iff.1 hst)
      rw [hst] at hcall
      clear hst
      go_enter Tryz.func158, Tryz.ntmps158
      go_wp2_with (go_at_call 121; refine hcall.mono ?_; rintro e w1 ⟨rfl, hb1⟩)
      go_ret
      exact ⟨ret_bool (by rw [eq_comm, kdEq_iff, hE.out, HT.out]), HB.out.trans (hb1.mono HB.out.size)⟩
set_option maxHeartbeats 2000000 in
theorem tsame_any (s : Tr) : ∀ (t : Tr) (w : World) (ve vk ue uk : Value), s.rd w w.heap.size ve vk → t.rd w w.heap.size ue uk →
    Calls Tryz.prog 121 #[.agg #[ve, vk], .agg #[ue, uk]] w fun e w' => e = .returned (.bool (trEq s t)) ∧ Below w.heap.size w w' := by
  induction s using Tr.ind with
  | h es ks ih =>
  rintro ⟨es', ks'⟩ w ve vk ue uk h h'
  have h0 := h
  have h0' := h'
  rw [rd_iff] at h h'
  obtain ⟨hes, hks⟩ := h
  obtain ⟨hes', hks'⟩ := h'
  obtain ⟨A3, n3, A4, n4, rfl, rfl⟩ := rd_shape h0
  obtain ⟨A5, n5, A6, n6, rfl, rfl⟩ := rd_shape h0'
  simp only [Tr.es, Tr.ks] at hes hks hes' hks' ⊢
  have HK : Hid (∀ w', Below w.heap.size w w' → SlP w' w'.heap.size 3 (KdE w' w'.heap.size) (.slice A4 ks.length n4) ks) := fun w' hb => (rd_iff.1 (rd_below hb hb.size _ _ _ h0)).2
  have HK' : Hid (∀ w', Below w.heap.size w w' → SlP w' w'.heap.size 3 (KdE w' w'.heap.size) (.slice A6 ks'.length n6) ks') := fun w' hb => (rd_iff.1 (rd_below hb hb.size _ _ _ h0')).2
  have hB0 : Below w.heap.size w ((w.alloc (.cells #[.slice A3 es.length n3, .slice A4 ks.length n4] 25)).alloc (.cells #[.slice A5 es'.length n5, .slice A6 ks'.length n6] 25)) := ((Below.refl _ w).alloc (Nat.le_refl _) _).alloc (by simp) _
  have HB0 := hid hB0
  have HE := hid (hes.imp hB0 hB0.size fun _ _ _ h => h)
  have HE' := hid (hes'.imp hB0 hB0.size fun _ _ _ h => h)
  have HT : Hid (∀ w', TestKids 158 ks ks' w') := fun w' => ⟨enters_of Tryz.func158 (by kernel_rfl) rfl, fun x y xe xk ye yk W hx _ _ hrx hry =>
    tsameClo_any x y xe xk ye yk W hrx hry fun W' hb => ih x.1 x.2 hx y.2 W' xe xk ye yk (rd_below hb hb.size _ _ _ hrx) (rd_below hb hb.size _ _ _ hry)⟩
  clear hes hks hes' hks' h0 h0' hB0 ih
  by_cases he : es = es'
  · have hd : decide (es = es') = true := by simpa using he
    have HD := hid hd
    have HEQ := hid he
    clear he hd
    cases hk : ksEq ks ks'
    · have HKN := hid (ksEq_no.1 hk)
      have HKV := hid hk
      clear hk
      go_enter Tryz.func121, Tryz.ntmps121
      go_wp2_with fail
      refine (eqEnts_any es es' _ _ _ _ HE.out HE'.out).mono ?_
      rw [HD.out]
      rintro e w1 ⟨rfl, q, rfl⟩
      go_wp2_with fail
      refine (eqKids_any 158 ks ks' _ _ _ (HK.out _ (below_drewN HB0.out q)) (HK'.out _ (below_drewN HB0.out q)) (HT.out _)).mono ?_
      rw [HKV.out]
      rintro e w2 ⟨rfl, hb2⟩
      go_wp2_with fail
      go_ret
      exact ⟨ret_bool (by rw [eq_comm, trEq_no]; intro e; cases e; exact HKN.out rfl), (below_drewN HB0.out q).trans (hb2.mono (below_drewN HB0.out q).size)⟩
    · have HKN := hid (ksEq_iff.1 hk)
      have HKV := hid hk
      clear hk
      go_enter Tryz.func121, Tryz.ntmps121
      go_wp2_with fail
      refine (eqEnts_any es es' _ _ _ _ HE.out HE'.out).mono ?_
      rw [HD.out]
      rintro e w1 ⟨rfl, q, rfl⟩
      go_wp2_with fail
      refine (eqKids_any 158 ks ks' _ _ _ (HK.out _ (below_drewN HB0.out q)) (HK'.out _ (below_drewN HB0.out q)) (HT.out _)).mono ?_
      rw [HKV.out]
      rintro e w2 ⟨rfl, hb2⟩
      go_wp2_with fail
      go_ret
      exact ⟨ret_bool (by rw [eq_comm, trEq_iff, HEQ.out, HKN.out]), (below_drewN HB0.out q).trans (hb2.mono (below_drewN HB0.out q).size)⟩
  · have hd : decide (es = es') = false := by simpa using he
    have HD := hid hd
    have HEQ := hid he
    clear he hd
    go_enter Tryz.func121, Tryz.ntmps121
    go_wp2_with fail
    refine (eqEnts_any es es' _ _ _ _ HE.out HE'.out).mono ?_
    rw [HD.out]
    rintro e w1 ⟨rfl, q, rfl⟩
    go_wp2_with fail
    go_ret
    exact ⟨ret_bool (by rw [eq_comm, trEq_no]; intro e; cases e; exact HEQ.out rfl), below_drewN HB0.out q⟩
/-- What tree.Same tells. -/
noncomputable def tSame (s t : Tr) : Bool := s.right 5 && (t.right 5 && trEq s t)
set_option maxHeartbeats 2000000 in
theorem tSame_any (s t : Tr) (w : World) (ve vk ue uk : Value) (h : s.rd w w.heap.size ve vk) (h' : t.rd w w.heap.size ue uk) :
    Calls Tryz.prog 79 #[.agg #[ve, vk], .agg #[ue, uk]] w fun e w' => e = .returned (.bool (tSame s t)) ∧ Below w.heap.size w w' := by
  have HS : Hid (∀ w', Below w.heap.size w w' → s.rd w' w'.heap.size ve vk) := fun w' hb => rd_below hb hb.size _ _ _ h
  have HT : Hid (∀ w', Below w.heap.size w w' → t.rd w' w'.heap.size ue uk) := fun w' hb => rd_below hb hb.size _ _ _ h'
  obtain ⟨A3, n3, A4, n4, rfl, rfl⟩ := rd_shape h
  obtain ⟨A5, n5, A6, n6, rfl, rfl⟩ := rd_shape h'
  have HX : Hid (∀ W, Below (w.heap.size + 2) ((w.alloc (.cells #[.slice A3 s.es.length n3, .slice A4 s.ks.length n4] 25)).alloc (.cells #[.slice A5 t.es.length n5, .slice A6 t.ks.length n6] 25)) W → Below w.heap.size w W ∧ w.heap.size + 2 ≤ W.heap.size ∧ W.cell? ⟨w.heap.size, 0, none⟩ = some (.slice A3 s.es.length n3) ∧ W.cell? ⟨w.heap.size, 1, none⟩ = some (.slice A4 s.ks.length n4) ∧ W.cell? ⟨w.heap.size + 1, 0, none⟩ = some (.slice A5 t.es.length n5) ∧ W.cell? ⟨w.heap.size + 1, 1, none⟩ = some (.slice A6 t.ks.length n6)) := fun W hW => by
    have g0 : W.heap[w.heap.size]? = some (.cells #[.slice A3 s.es.length n3, .slice A4 s.ks.length n4] 25 (0, 0)) := (hW.block _ (by omega)).trans ((heap_old (by simp)).trans (heap_new rfl))
    have g1 : W.heap[w.heap.size + 1]? = some (.cells #[.slice A5 t.es.length n5, .slice A6 t.ks.length n6] 25 (0, 0)) := (hW.block _ (by omega)).trans (heap_new (by simp))
    exact ⟨(((Below.refl _ w).alloc (Nat.le_refl _) _).alloc (by simp) _).trans (hW.mono (by omega)), by have := hW.size; simpa using this, cell_cells (i := 0) g0, cell_cells (i := 1) g0, cell_cells (i := 0) g1, cell_cells (i := 1) g1⟩
  clear h h'
  have h0 := (HX.out _ (Below.refl _ _)).1
  cases hs : s.right 5
  · have HR : Hid (tSame s t = false) := by unfold Hid tSame; rw [hs]; rfl
    have H1 := hid hs
    clear hs
    go_enter Tryz.func79, Tryz.ntmps79
    go_wp2_with fail
    refine (tRight_any s _ _ _ (HS.out _ h0)).mono ?_
    rw [H1.out]
    rintro e w1 ⟨rfl, hb1⟩
    go_wp2_with fail
    go_ret
    exact ⟨ret_bool HR.out.symm, h0.trans (hb1.mono h0.size)⟩
  cases ht : t.right 5
  · have HR : Hid (tSame s t = false) := by unfold Hid tSame; rw [ht]; simp
    have H1 := hid hs
    have H2 := hid ht
    clear hs ht
    go_enter Tryz.func79, Tryz.ntmps79
    go_wp2_with fail
    refine (tRight_any s _ _ _ (HS.out _ h0)).mono ?_
    rw [H1.out]
    rintro e w1 ⟨rfl, hb1⟩
    have hbk1 := hid (hb1.mono (show w.heap.size + 2 ≤ _ by simp))
    clear hb1
    obtain ⟨hB1, hs1, q0, q1, q2, q3⟩ := HX.out _ hbk1.out
    go_wp2_with fail
    refine (tRight_any t _ _ _ (HT.out _ hB1)).mono ?_
    rw [H2.out]
    rintro e w2 ⟨rfl, hb2⟩
    go_wp2_with fail
    go_ret
    exact ⟨ret_bool HR.out.symm, hB1.trans (hb2.mono (by omega))⟩
  · have HR : Hid (tSame s t = trEq s t) := by unfold Hid tSame; rw [hs, ht]; rfl
    have H1 := hid hs
    have H2 := hid ht
    clear hs ht
    go_enter Tryz.func79, Tryz.ntmps79
    go_wp2_with fail
    refine (tRight_any s _ _ _ (HS.out _ h0)).mono ?_
    rw [H1.out]
    rintro e w1 ⟨rfl, hb1⟩
    have hbk1 := hid (hb1.mono (show w.heap.size + 2 ≤ _ by simp))
    clear hb1
    obtain ⟨hB1, hs1, q0, q1, q2, q3⟩ := HX.out _ hbk1.out
    go_wp2_with fail
    refine (tRight_any t _ _ _ (HT.out _ hB1)).mono ?_
    rw [H2.out]
    rintro e w2 ⟨rfl, hb2⟩
    have hbk2 := hid (hbk1.out.trans (hb2.mono hs1))
    clear hb2 q0 q1 q2 q3 hB1
    obtain ⟨hB2, hs2, q0, q1, q2, q3⟩ := HX.out _ hbk2.out
    go_wp2_with fail
    refine (tsame_any s t _ _ _ _ _ (HS.out _ hB2) (HT.out _ hB2)).mono ?_
    rintro e w3 ⟨rfl, hb3⟩
    go_wp2_with fail
    go_ret
    exact ⟨ret_bool HR.out.symm, hB2.trans (hb3.mono (by omega))⟩
end Go.Proofs.YtkjijbogbelilaaGreat

namespace Go.Proofs.YtkjijbogbelilaaGreat
open Go.RowKit
set_option maxRecDepth 100000

/-- What context.Same tells. -/
def cSame (a b : List Sp) : Bool := apartB a && (apartB b && decide (a = b))
set_option maxHeartbeats 2000000 in
theorem cSame_any (a b : List Sp) (va vb : Value) (w : World) (ha : SlP w w.heap.size 3 SpE va a) (hb : SlP w w.heap.size 3 SpE vb b) (hN : a.length ≤ 20000) (hN' : b.length ≤ 20000) :
    Calls Tryz.prog 91 #[va, vb] w fun e w' => e = .returned (.bool (cSame a b)) ∧ Below w.heap.size w w' := by
  have HA := hid ha
  have HB := hid hb
  obtain ⟨A1, c1, rfl, _⟩ := ha
  obtain ⟨A2, c2, rfl, _⟩ := hb
  go_enter Tryz.func91, Tryz.ntmps91
  go_wp2_with fail
  refine (cright_any a _ w HA.out (by omega)).mono ?_
  rintro e w1 ⟨rfl, hb1⟩
  have hs1 := hb1.size
  cases ra : apartB a
  · have HR : Hid (cSame a b = false) := by unfold Hid cSame; rw [ra]; rfl
    clear ra
    go_wp2_with fail
    go_ret
    exact ⟨ret_bool HR.out.symm, hb1⟩
  have RA := hid ra
  go_wp2_with fail
  refine (cright_any b _ w1 (HB.out.imp hb1 hs1 fun _ _ _ h => h) (by omega)).mono ?_
  rintro e w2 ⟨rfl, hb2⟩
  have hs2 := hb2.size
  have hB2 : Below w.heap.size w w2 := hb1.trans (hb2.mono hs1)
  cases rb : apartB b
  · have HR : Hid (cSame a b = false) := by unfold Hid cSame; rw [ra, rb]; rfl
    clear ra rb
    go_wp2_with fail
    go_ret
    exact ⟨ret_bool HR.out.symm, hB2⟩
  have HR : Hid (cSame a b = decide (a = b)) := by unfold Hid cSame; rw [ra, rb]; rfl
  clear ra rb
  go_wp2_with fail
  refine (eqSps_any a b _ _ w2 _ (HA.out.imp hB2 (by omega) fun _ _ _ h => h) (HB.out.imp hB2 (by omega) fun _ _ _ h => h)).mono ?_
  rintro e w3 ⟨rfl, q, rfl⟩
  go_wp2_with fail
  go_ret
  exact ⟨ret_bool HR.out.symm, below_drewN hB2 q⟩
end Go.Proofs.YtkjijbogbelilaaGreat

namespace Go.Proofs.YtkjijbogbelilaaGreat
open Go.RowKit
set_option maxRecDepth 100000

/-- What causal.Same tells. -/
noncomputable def kSame (a b : Tr) (ca cb : List Sp) : Bool := caR a ca && (caR b cb && (trEq a b && decide (ca = cb)))
set_option maxHeartbeats 4000000 in
theorem csame_any (ca cb : List Sp) (a b : Tr) (va ka vb kb vca vcb : Value) (w : World) (ha : a.rd w w.heap.size va ka) (hb : b.rd w w.heap.size vb kb) (hca : SlP w w.heap.size 3 SpE vca ca) (hcb : SlP w w.heap.size 3 SpE vcb cb) (hza : a.sz ≤ 4000) (hzb : b.sz ≤ 4000) (hN1 : ca.length ≤ 20000) (hN2 : cb.length ≤ 20000) :
    Calls Tryz.prog 31 #[.agg #[va, ka, vca], .agg #[vb, kb, vcb]] w fun e w' => e = .returned (.bool (kSame a b ca cb)) ∧ Below w.heap.size w w' := by
  have HA : Hid (∀ w', Below w.heap.size w w' → a.rd w' w'.heap.size va ka) := fun w' hb => rd_below hb hb.size _ _ _ ha
  have HB : Hid (∀ w', Below w.heap.size w w' → b.rd w' w'.heap.size vb kb) := fun w' hb' => rd_below hb' hb'.size _ _ _ hb
  have HCA : Hid (∀ w', Below w.heap.size w w' → SlP w' w'.heap.size 3 SpE vca ca) := fun w' hb => hca.imp hb hb.size fun _ _ _ h => h
  have HCB : Hid (∀ w', Below w.heap.size w w' → SlP w' w'.heap.size 3 SpE vcb cb) := fun w' hb => hcb.imp hb hb.size fun _ _ _ h => h
  obtain ⟨A1, n1, A2, n2, rfl, rfl⟩ := rd_shape ha
  obtain ⟨A3, n3, A4, n4, rfl, rfl⟩ := rd_shape hb
  obtain ⟨A5, n5, rfl, _⟩ := hca
  obtain ⟨A6, n6, rfl, _⟩ := hcb
  have HX : Hid (∀ W, Below (w.heap.size + 2) ((w.alloc (.cells #[.slice A1 a.es.length n1, .slice A2 a.ks.length n2, .slice A5 ca.length n5] 29)).alloc (.cells #[.slice A3 b.es.length n3, .slice A4 b.ks.length n4, .slice A6 cb.length n6] 29)) W → (Below w.heap.size w W ∧ w.heap.size + 2 ≤ (W).heap.size ∧ a.rd W (W).heap.size (.slice A1 a.es.length n1) (.slice A2 a.ks.length n2) ∧ SlP W (W).heap.size 3 SpE (.slice A5 ca.length n5) ca ∧ b.rd W (W).heap.size (.slice A3 b.es.length n3) (.slice A4 b.ks.length n4) ∧ SlP W (W).heap.size 3 SpE (.slice A6 cb.length n6) cb ∧ (W).cell? ⟨w.heap.size, 0, none⟩ = some (.slice A1 a.es.length n1) ∧ (W).cell? ⟨w.heap.size, 1, none⟩ = some (.slice A2 a.ks.length n2) ∧ (W).cell? ⟨w.heap.size, 2, none⟩ = some (.slice A5 ca.length n5) ∧ (W).cell? ⟨w.heap.size + 1, 0, none⟩ = some (.slice A3 b.es.length n3) ∧ (W).cell? ⟨w.heap.size + 1, 1, none⟩ = some (.slice A4 b.ks.length n4) ∧ (W).cell? ⟨w.heap.size + 1, 2, none⟩ = some (.slice A6 cb.length n6))) := fun W hW => by
    have g0 : W.heap[w.heap.size]? = some (.cells #[.slice A1 a.es.length n1, .slice A2 a.ks.length n2, .slice A5 ca.length n5] 29 (0, 0)) := (hW.block _ (by omega)).trans ((heap_old (by simp)).trans (heap_new rfl))
    have g1 : W.heap[w.heap.size + 1]? = some (.cells #[.slice A3 b.es.length n3, .slice A4 b.ks.length n4, .slice A6 cb.length n6] 29 (0, 0)) := (hW.block _ (by omega)).trans (heap_new (by simp))
    have hB : Below w.heap.size w W := (((Below.refl _ w).alloc (Nat.le_refl _) _).alloc (by simp) _).trans (hW.mono (by omega))
    exact ⟨hB, by have := hW.size; simpa using this, HA.out _ hB, HCA.out _ hB, HB.out _ hB, HCB.out _ hB, cell_cells (i := 0) g0, cell_cells (i := 1) g0, cell_cells (i := 2) g0, cell_cells (i := 0) g1, cell_cells (i := 1) g1, cell_cells (i := 2) g1⟩
  clear ha hb
  obtain ⟨hB0, hs0, a0, b0, a0', b0', _⟩ := HX.out _ (Below.refl _ _)
  cases h1 : caR a ca
  · have HR : Hid (kSame a b ca cb = false) := by unfold Hid kSame; rw [h1]; rfl
    have H1 := hid h1
    clear h1
    go_enter Tryz.func31, Tryz.ntmps31
    go_wp2_with fail
    refine (caright_any a ca _ _ _ _ a0 b0 hza hN1).mono ?_
    rw [H1.out]
    rintro e w1 ⟨rfl, hb⟩
    have hbk1 := hid (hb.mono (show w.heap.size + 2 ≤ _ by simp))
    clear hb
    obtain ⟨hB1, hs1, r1, s1, r1', s1', q0, q1, q2, q3, q4, q5⟩ := HX.out _ hbk1.out
    go_wp2_with fail
    go_ret
    exact ⟨ret_bool HR.out.symm, hB1⟩
  cases h2 : caR b cb
  · have HR : Hid (kSame a b ca cb = false) := by unfold Hid kSame; rw [h1, h2]; rfl
    have H1 := hid h1
    have H2 := hid h2
    clear h1 h2
    go_enter Tryz.func31, Tryz.ntmps31
    go_wp2_with fail
    refine (caright_any a ca _ _ _ _ a0 b0 hza hN1).mono ?_
    rw [H1.out]
    rintro e w1 ⟨rfl, hb⟩
    have hbk1 := hid (hb.mono (show w.heap.size + 2 ≤ _ by simp))
    clear hb
    obtain ⟨hB1, hs1, r1, s1, r1', s1', q0, q1, q2, q3, q4, q5⟩ := HX.out _ hbk1.out
    go_wp2_with fail
    refine (caright_any b cb _ _ _ w1 r1' s1' hzb hN2).mono ?_
    rw [H2.out]
    rintro e w2 ⟨rfl, hb⟩
    have hbk2 := hid (hbk1.out.trans (hb.mono hs1))
    clear hb q0 q1 q2 q3 q4 q5
    obtain ⟨hB2, hs2, r2, s2, r2', s2', q0, q1, q2, q3, q4, q5⟩ := HX.out _ hbk2.out
    go_wp2_with fail
    go_ret
    exact ⟨ret_bool HR.out.symm, hB2⟩
  have ht3 : tSame a b = trEq a b := by unfold tSame; rw [caR_right h1, caR_right h2]; rfl
  have hc3 : cSame ca cb = decide (ca = cb) := by unfold cSame; rw [caR_apart h1, caR_apart h2]; rfl
  cases h3 : trEq a b
  · have HR : Hid (kSame a b ca cb = false) := by unfold Hid kSame; rw [h1, h2, h3]; rfl
    have H1 := hid h1
    have H2 := hid h2
    have H3 : Hid (tSame a b = false) := ht3.trans h3
    clear h1 h2 h3 ht3 hc3
    go_enter Tryz.func31, Tryz.ntmps31
    go_wp2_with fail
    refine (caright_any a ca _ _ _ _ a0 b0 hza hN1).mono ?_
    rw [H1.out]
    rintro e w1 ⟨rfl, hb⟩
    have hbk1 := hid (hb.mono (show w.heap.size + 2 ≤ _ by simp))
    clear hb
    obtain ⟨hB1, hs1, r1, s1, r1', s1', q0, q1, q2, q3, q4, q5⟩ := HX.out _ hbk1.out
    go_wp2_with fail
    refine (caright_any b cb _ _ _ w1 r1' s1' hzb hN2).mono ?_
    rw [H2.out]
    rintro e w2 ⟨rfl, hb⟩
    have hbk2 := hid (hbk1.out.trans (hb.mono hs1))
    clear hb q0 q1 q2 q3 q4 q5
    obtain ⟨hB2, hs2, r2, s2, r2', s2', q0, q1, q2, q3, q4, q5⟩ := HX.out _ hbk2.out
    go_wp2_with fail
    refine (tSame_any a b w2 _ _ _ _ r2 r2').mono ?_
    rw [H3.out]
    rintro e w3 ⟨rfl, hb⟩
    have hbk3 := hid (hbk2.out.trans (hb.mono hs2))
    clear hb q0 q1 q2 q3 q4 q5
    obtain ⟨hB3, hs3, r3, s3, r3', s3', q0, q1, q2, q3, q4, q5⟩ := HX.out _ hbk3.out
    go_wp2_with fail
    go_ret
    exact ⟨ret_bool HR.out.symm, hB3⟩
  · have HR : Hid (kSame a b ca cb = decide (ca = cb)) := by unfold Hid kSame; rw [h1, h2, h3]; rfl
    have H1 := hid h1
    have H2 := hid h2
    have H3 : Hid (tSame a b = true) := ht3.trans h3
    have H4 := hid hc3
    clear h1 h2 h3 ht3 hc3
    go_enter Tryz.func31, Tryz.ntmps31
    go_wp2_with fail
    refine (caright_any a ca _ _ _ _ a0 b0 hza hN1).mono ?_
    rw [H1.out]
    rintro e w1 ⟨rfl, hb⟩
    have hbk1 := hid (hb.mono (show w.heap.size + 2 ≤ _ by simp))
    clear hb
    obtain ⟨hB1, hs1, r1, s1, r1', s1', q0, q1, q2, q3, q4, q5⟩ := HX.out _ hbk1.out
    go_wp2_with fail
    refine (caright_any b cb _ _ _ w1 r1' s1' hzb hN2).mono ?_
    rw [H2.out]
    rintro e w2 ⟨rfl, hb⟩
    have hbk2 := hid (hbk1.out.trans (hb.mono hs1))
    clear hb q0 q1 q2 q3 q4 q5
    obtain ⟨hB2, hs2, r2, s2, r2', s2', q0, q1, q2, q3, q4, q5⟩ := HX.out _ hbk2.out
    go_wp2_with fail
    refine (tSame_any a b w2 _ _ _ _ r2 r2').mono ?_
    rw [H3.out]
    rintro e w3 ⟨rfl, hb⟩
    have hbk3 := hid (hbk2.out.trans (hb.mono hs2))
    clear hb q0 q1 q2 q3 q4 q5
    obtain ⟨hB3, hs3, r3, s3, r3', s3', q0, q1, q2, q3, q4, q5⟩ := HX.out _ hbk3.out
    go_wp2_with fail
    refine (cSame_any ca cb _ _ w3 s3 s3' hN1 hN2).mono ?_
    rw [H4.out]
    rintro e w4 ⟨rfl, hb⟩
    go_wp2_with fail
    go_ret
    exact ⟨ret_bool HR.out.symm, hB3.trans (hb.mono (by omega))⟩
theorem kSame_ok {x y : Kn} (hx : KOk x) (hy : KOk y) : kSame x.1 y.1 x.2 y.2 = true ↔ x = y := by
  unfold kSame
  rw [caR_iff.2 hx, caR_iff.2 hy, Bool.true_and, Bool.true_and, Bool.and_eq_true, trEq_iff, decide_eq_true_eq]
  exact ⟨fun h => Prod.ext h.1 h.2, fun h => by subst h; simp⟩
/-- What causal.Leq tells. -/
noncomputable def kLeq (a b : Tr) (ca cb : List Sp) : Bool := caR a ca && (caR b cb && (trEq (jT a b ca cb) b && decide (jC ca cb = cb)))
theorem kLeq_ok {x y : Kn} (hx : KOk x) (hy : KOk y) : kLeq x.1 y.1 x.2 y.2 = true ↔ jn x y = y := by
  unfold kLeq
  rw [caR_iff.2 hx, caR_iff.2 hy, Bool.true_and, Bool.true_and, Bool.and_eq_true, trEq_iff, decide_eq_true_eq]
  exact ⟨fun h => Prod.ext h.1 h.2, fun h => ⟨congrArg Prod.fst h, congrArg Prod.snd h⟩⟩
theorem kLeq_eq {a b : Tr} {ca cb : List Sp} (ha : CaOk a ca) (hb : CaOk b cb) : kSame (jT a b ca cb) b (jC ca cb) cb = kLeq a b ca cb := by
  unfold kSame kLeq
  rw [caR_iff.2 ha, caR_iff.2 hb, caR_iff.2 (jT_ok ha hb)]
set_option maxHeartbeats 4000000 in
theorem cleqK_any (ca cb : List Sp) (a b : Tr) (va ka vb kb vca vcb : Value) (w : World) (ha : a.rd w w.heap.size va ka) (hb : b.rd w w.heap.size vb kb) (hca : SlP w w.heap.size 3 SpE vca ca) (hcb : SlP w w.heap.size 3 SpE vcb cb) (hza : a.sz ≤ 1500) (hzb : b.sz ≤ 1500) (hN1 : ca.length ≤ 9000) (hN2 : cb.length ≤ 9000) :
    Calls Tryz.prog 30 #[.agg #[va, ka, vca], .agg #[vb, kb, vcb]] w fun e w' => e = .returned (.bool (kLeq a b ca cb)) ∧ Below w.heap.size w w' := by
  have HA : Hid (∀ w', Below w.heap.size w w' → a.rd w' w'.heap.size va ka) := fun w' hb => rd_below hb hb.size _ _ _ ha
  have HB : Hid (∀ w', Below w.heap.size w w' → b.rd w' w'.heap.size vb kb) := fun w' hb' => rd_below hb' hb'.size _ _ _ hb
  have HCA : Hid (∀ w', Below w.heap.size w w' → SlP w' w'.heap.size 3 SpE vca ca) := fun w' hb => hca.imp hb hb.size fun _ _ _ h => h
  have HCB : Hid (∀ w', Below w.heap.size w w' → SlP w' w'.heap.size 3 SpE vcb cb) := fun w' hb => hcb.imp hb hb.size fun _ _ _ h => h
  obtain ⟨A1, n1, A2, n2, rfl, rfl⟩ := rd_shape ha
  obtain ⟨A3, n3, A4, n4, rfl, rfl⟩ := rd_shape hb
  obtain ⟨A5, n5, rfl, _⟩ := hca
  obtain ⟨A6, n6, rfl, _⟩ := hcb
  have HX : Hid (∀ W, Below (w.heap.size + 2) ((w.alloc (.cells #[.slice A1 a.es.length n1, .slice A2 a.ks.length n2, .slice A5 ca.length n5] 29)).alloc (.cells #[.slice A3 b.es.length n3, .slice A4 b.ks.length n4, .slice A6 cb.length n6] 29)) W → (Below w.heap.size w W ∧ w.heap.size + 2 ≤ (W).heap.size ∧ a.rd W (W).heap.size (.slice A1 a.es.length n1) (.slice A2 a.ks.length n2) ∧ SlP W (W).heap.size 3 SpE (.slice A5 ca.length n5) ca ∧ b.rd W (W).heap.size (.slice A3 b.es.length n3) (.slice A4 b.ks.length n4) ∧ SlP W (W).heap.size 3 SpE (.slice A6 cb.length n6) cb ∧ (W).cell? ⟨w.heap.size, 0, none⟩ = some (.slice A1 a.es.length n1) ∧ (W).cell? ⟨w.heap.size, 1, none⟩ = some (.slice A2 a.ks.length n2) ∧ (W).cell? ⟨w.heap.size, 2, none⟩ = some (.slice A5 ca.length n5) ∧ (W).cell? ⟨w.heap.size + 1, 0, none⟩ = some (.slice A3 b.es.length n3) ∧ (W).cell? ⟨w.heap.size + 1, 1, none⟩ = some (.slice A4 b.ks.length n4) ∧ (W).cell? ⟨w.heap.size + 1, 2, none⟩ = some (.slice A6 cb.length n6))) := fun W hW => by
    have g0 : W.heap[w.heap.size]? = some (.cells #[.slice A1 a.es.length n1, .slice A2 a.ks.length n2, .slice A5 ca.length n5] 29 (0, 0)) := (hW.block _ (by omega)).trans ((heap_old (by simp)).trans (heap_new rfl))
    have g1 : W.heap[w.heap.size + 1]? = some (.cells #[.slice A3 b.es.length n3, .slice A4 b.ks.length n4, .slice A6 cb.length n6] 29 (0, 0)) := (hW.block _ (by omega)).trans (heap_new (by simp))
    have hB : Below w.heap.size w W := (((Below.refl _ w).alloc (Nat.le_refl _) _).alloc (by simp) _).trans (hW.mono (by omega))
    exact ⟨hB, by have := hW.size; simpa using this, HA.out _ hB, HCA.out _ hB, HB.out _ hB, HCB.out _ hB, cell_cells (i := 0) g0, cell_cells (i := 1) g0, cell_cells (i := 2) g0, cell_cells (i := 0) g1, cell_cells (i := 1) g1, cell_cells (i := 2) g1⟩
  clear ha hb
  obtain ⟨hB0, hs0, a0, b0, a0', b0', _⟩ := HX.out _ (Below.refl _ _)
  by_cases h : caR a ca = true ∧ caR b cb = true
  · obtain ⟨h1, h2⟩ := h
    have ha := caR_iff.1 h1
    have hb := caR_iff.1 h2
    obtain ⟨j1, j2, j3⟩ := jn_ok ha hb
    have hsz1 := jT_sz ha hb
    have hsz2 := jC_len ha.ap hb.ap
    have HR := hid (kLeq_eq ha hb)
    have HJ1 := hid j1
    have HJ2 := hid j2
    have HJ3 := hid j3
    clear h1 h2 ha hb j1 j2 j3
    go_enter Tryz.func30, Tryz.ntmps30
    go_wp2_with fail
    refine (cJoin_any ca cb a b _ _ _ _ _ _ _ a0 a0' b0 b0' (by omega) (by omega) (by omega) (by omega)).mono ?_
    rw [HJ1.out, HJ2.out, HJ3.out]
    rintro e w1 ⟨ve, vk, vc, rfl, hrd, hsl, hb⟩
    generalize jT a b ca cb = T at *
    generalize jC ca cb = C at *
    obtain ⟨Av, nv, Aw, nw, rfl, rfl⟩ := rda_shape hrd
    obtain ⟨Ac, nc, rfl⟩ := hsl.shape
    have hbk1 := hid (hb.mono (show w.heap.size + 2 ≤ _ by simp))
    clear hb
    obtain ⟨hB1, hs1, r1, s1, r1', s1', q0, q1, q2, q3, q4, q5⟩ := HX.out _ hbk1.out
    have hv : Below w1.heap.size w1 (w1.alloc (.cells #[.slice Av T.es.length nv, .slice Aw T.ks.length nw, .slice Ac C.length nc] 29)) := (Below.refl _ w1).alloc (Nat.le_refl _) _
    obtain ⟨hBV, hsV, rV, sV, rV', sV', _⟩ := HX.out _ (hbk1.out.trans (hv.mono hs1))
    have HRD := hid (rda_rd hrd (fun b hb => hb.2) hv)
    have HSL := hid (hsl.slp (fun b hb => hb.2) hv)
    have hne : w.heap.size + 1 ≠ w1.heap.size := by omega
    clear hrd hsl hv
    go_wp2_with fail
    refine (csame_any C cb T b _ _ _ _ _ _ _ HRD.out rV' HSL.out sV' (by omega) (by omega) (by omega) (by omega)).mono ?_
    rw [HR.out]
    rintro e w2 ⟨rfl, hb⟩
    go_wp2_with fail
    go_ret
    exact ⟨rfl, hBV.trans (hb.mono (by omega))⟩
  · have hr : kLeq a b ca cb = false := by
      unfold kLeq
      cases h1 : caR a ca
      · rfl
      · cases h2 : caR b cb
        · rfl
        · exact absurd ⟨h1, h2⟩ h
    have hj : jnE a b ca cb = 1 := by
      unfold jnE
      cases h1 : caR a ca
      · rfl
      · cases h2 : caR b cb
        · rfl
        · exact absurd ⟨h1, h2⟩ h
    have HR := hid hr
    have HJ1 := hid hj
    clear h hr hj
    go_enter Tryz.func30, Tryz.ntmps30
    go_wp2_with fail
    refine (cJoin_any ca cb a b _ _ _ _ _ _ _ a0 a0' b0 b0' (by omega) (by omega) (by omega) (by omega)).mono ?_
    rw [HJ1.out]
    rintro e w1 ⟨ve, vk, vc, rfl, hrd, hsl, hb⟩
    generalize jnT a b ca cb = T at *
    generalize jnC a b ca cb = C at *
    obtain ⟨Av, nv, Aw, nw, rfl, rfl⟩ := rda_shape hrd
    obtain ⟨Ac, nc, rfl⟩ := hsl.shape
    have hbk1 := hid (hb.mono (show w.heap.size + 2 ≤ _ by simp))
    clear hb
    obtain ⟨hB1, hs1, r1, s1, r1', s1', q0, q1, q2, q3, q4, q5⟩ := HX.out _ hbk1.out
    clear hrd hsl
    go_wp2_with fail
    go_ret
    exact ⟨ret_bool HR.out.symm, hB1.alloc (by omega) _⟩
set_option maxHeartbeats 4000000 in
theorem l09join_any (ca cb : List Sp) (a b : Tr) (va ka vb kb vca vcb : Value) (w : World) (ha : a.rd w w.heap.size va ka) (hb : b.rd w w.heap.size vb kb) (hca : SlP w w.heap.size 3 SpE vca ca) (hcb : SlP w w.heap.size 3 SpE vcb cb) (hza : a.sz ≤ 4000) (hzb : b.sz ≤ 4000) (hN1 : ca.length ≤ 20000) (hN2 : cb.length ≤ 20000) :
    Calls Tryz.prog 35 #[.agg #[va, ka, vca], .agg #[vb, kb, vcb]] w (RetC w (jnT a b ca cb) (jnC a b ca cb)) := by
  have HA := hid ha
  have HB := hid hb
  have HCA := hid hca
  have HCB := hid hcb
  obtain ⟨A1, n1, A2, n2, rfl, rfl⟩ := rd_shape ha
  obtain ⟨A3, n3, A4, n4, rfl, rfl⟩ := rd_shape hb
  obtain ⟨A5, n5, rfl, _⟩ := hca
  obtain ⟨A6, n6, rfl, _⟩ := hcb
  have hB0 : Below w.heap.size w (((w.alloc (.cells #[.slice A1 a.es.length n1, .slice A2 a.ks.length n2, .slice A5 ca.length n5] 29)).alloc (.cells #[.slice A3 b.es.length n3, .slice A4 b.ks.length n4, .slice A6 cb.length n6] 29)).alloc (.cells #[.slice none 0 0, .slice none 0 0, .slice none 0 0] 29)) := (((Below.refl _ w).alloc (Nat.le_refl _) _).alloc (by simp) _).alloc (by simp; omega) _
  clear ha hb
  go_enter Tryz.func35, Tryz.ntmps35
  go_wp2_with fail
  refine (cJoin_any ca cb a b _ _ _ _ _ _ _ (rd_below hB0 hB0.size _ _ _ HA.out) (rd_below hB0 hB0.size _ _ _ HB.out) (HCA.out.imp hB0 hB0.size fun _ _ _ h => h) (HCB.out.imp hB0 hB0.size fun _ _ _ h => h) hza hzb hN1 hN2).mono ?_
  rintro e w1 ⟨ve, vk, vc, rfl, hrd, hsl, hb⟩
  generalize jnT a b ca cb = T at *
  generalize jnC a b ca cb = C at *
  generalize jnE a b ca cb = k at *
  obtain ⟨Av, nv, Aw, nw, rfl, rfl⟩ := rda_shape hrd
  obtain ⟨Ac, nc, rfl⟩ := hsl.shape
  have hsz := hb.size
  simp only [World.size_alloc] at hsz hb hrd hsl
  have hG : w1.heap[w.heap.size + 2]? = some (.cells #[.slice none 0 0, .slice none 0 0, .slice none 0 0] 29 (0, 0)) := (hb.block _ (by omega)).trans (heap_new (by simp))
  have HG : Hid (w1.heap[w.heap.size + 1 + 1]? = some (.cells #[.slice none 0 0, .slice none 0 0, .slice none 0 0] 29 (0, 0))) := hG
  have HBW := hid (hB0.trans (hb.mono (by omega)))
  have HR1 := hid hrd
  have HS1 := hid hsl
  have k0 := cell_cells (i := 0) hG
  have k1 := cell_cells (i := 1) hG
  have k2 := cell_cells (i := 2) hG
  simp only [List.getElem?_toArray, List.getElem?_cons_zero, List.getElem?_cons_succ] at k0 k1 k2
  have z0 := cells_frz (i := 0) hG
  have z1 := cells_frz (i := 1) hG
  have z2 := cells_frz (i := 2) hG
  have hl0 : w.heap.size + 2 < w1.heap.size := by omega
  have hl0' : w.heap.size + 2 ≠ w1.heap.size := by omega
  have hl1 : w.heap.size + 1 + 1 < w1.heap.size := by omega
  have hl1' : w.heap.size + 1 + 1 ≠ w1.heap.size := by omega
  clear hrd hsl hb hG hB0
  go_wp2_with fail
  obtain ⟨r0, r1, r2, hK, hS, _⟩ := box3a HG.out (.slice Av T.es.length nv) (.slice Aw T.ks.length nw) (.slice Ac C.length nc) (.cells #[.slice Av T.es.length nv, .slice Aw T.ks.length nw, .slice Ac C.length nc] 29)
  have hBW := below_box3 (g := w.heap.size + 1 + 1) HBW.out (by omega) (by omega) (.slice Av T.es.length nv) (.slice Aw T.ks.length nw) (.slice Ac C.length nc) (.cells #[.slice Av T.es.length nv, .slice Aw T.ks.length nw, .slice Ac C.length nc] 29)
  refine bodyPost_ret (v := .agg #[.slice Av T.es.length nv, .slice Aw T.ks.length nw, .slice Ac C.length nc]) (by simp [results, Tryz.results35, go_sem, r0, r1, r2]) rfl ⟨_, _, _, rfl, ?_, ?_, hBW⟩
  · exact rda_up (fun b hb => hK b (by omega) hb.2) (fun b hb => ⟨by omega, by rw [hS]; omega⟩) _ _ _ HR1.out
  · exact HS1.out.up (fun b hb => hK b (by omega) hb.2) (fun b hb => ⟨by omega, by rw [hS]; omega⟩) (fun _ _ _ h => h)
end Go.Proofs.YtkjijbogbelilaaGreat

namespace Go.Proofs.YtkjijbogbelilaaGreat
open Go.RowKit
set_option maxRecDepth 100000

def T9 : Tr := .mk [⟨1, 1, ByteArray.empty, 0⟩] []
def C9 : List Sp := [⟨1, 1, 1⟩]
theorem jn9_ok : (caR T9 C9 && caR (.mk [] []) []) = true := by kernel_rfl
theorem jn9_T : jnT T9 (.mk [] []) C9 [] = T9 := by
  unfold jnT; rw [jn9_ok, if_pos rfl, joinT]
  have h1 : entL C9 [] T9.es (Tr.mk [] []).es = T9.es := by
    show entL C9 [] [⟨1, 1, ByteArray.empty, 0⟩] [] = _
    rw [entL, entL]; rfl
  have h2 : joinK T9 (.mk [] []) = [] := by simp [joinK, T9, Tr.ks, srtL, cmpL, Lib.compact, Lib.compactUpTo]
  rw [h1, h2]; rfl
theorem jn9_C : jnC T9 (.mk [] []) C9 [] = C9 := by
  unfold jnC; rw [jn9_ok, if_pos rfl]; kernel_rfl
set_option maxHeartbeats 4000000 in
theorem awake09_any (w : World) : Calls Tryz.prog 23 #[] w fun e w' => e = .returned (.bool true) ∧ Below w.heap.size w w' := by
  have HX : Hid (∀ W, Below (w.heap.size + 4) ((((w.alloc (.cells #[.int .i64 1, .int .i64 1] 42)).alloc (.cells #[.int .i64 1, .int .i64 1, .string ByteArray.empty, .int .i64 0] 63)).alloc (.cells #[.int .i64 1, .int .i64 1, .int .i64 1] 55)).alloc (.cells #[.slice (some ⟨w.heap.size + 1, 0, none⟩) 1 1, .slice none 0 0, .slice (some ⟨w.heap.size + 1 + 1, 0, none⟩) 1 1] 29)) W → Below w.heap.size w W ∧ T9.rd W W.heap.size (.slice (some ⟨w.heap.size + 1, 0, none⟩) 1 1) (.slice none 0 0) ∧ SlP W W.heap.size 3 SpE (.slice (some ⟨w.heap.size + 1 + 1, 0, none⟩) 1 1) C9 ∧ w.heap.size + 4 ≤ W.heap.size ∧ (W.cell? ⟨w.heap.size + 3, 0, none⟩ = some (.slice (some ⟨w.heap.size + 1, 0, none⟩) 1 1) ∧ W.cell? ⟨w.heap.size + 3, 1, none⟩ = some (.slice none 0 0) ∧ W.cell? ⟨w.heap.size + 3, 2, none⟩ = some (.slice (some ⟨w.heap.size + 1 + 1, 0, none⟩) 1 1))) := fun W hW => by
    have hs : w.heap.size + 4 ≤ W.heap.size := by have := hW.size; simpa using this
    have g1 : W.heap[w.heap.size + 1]? = some (.cells #[.int .i64 1, .int .i64 1, .string ByteArray.empty, .int .i64 0] 63 (0, 0)) := (hW.block _ (by omega)).trans ((heap_old (by simp <;> omega)).trans ((heap_old (by simp)).trans (heap_new (by simp))))
    have g2 : W.heap[w.heap.size + 1 + 1]? = some (.cells #[.int .i64 1, .int .i64 1, .int .i64 1] 55 (0, 0)) := (hW.block _ (by omega)).trans ((heap_old (by simp)).trans (heap_new (by simp)))
    have g3 : W.heap[w.heap.size + 3]? = some (.cells #[.slice (some ⟨w.heap.size + 1, 0, none⟩) 1 1, .slice none 0 0, .slice (some ⟨w.heap.size + 1 + 1, 0, none⟩) 1 1] 29 (0, 0)) := (hW.block _ (by omega)).trans (heap_new (by simp))
    refine ⟨(((((Below.refl _ w).alloc (Nat.le_refl _) _).alloc (by simp) _).alloc (by simp; omega) _).alloc (by simp; omega) _).trans (hW.mono (by omega)), ?_, ?_, hs, cell_cells (i := 0) g3, cell_cells (i := 1) g3, cell_cells (i := 2) g3⟩
    · exact rd_iff.2 ⟨SlA.one (x := (⟨1, 1, ByteArray.empty, 0⟩ : En)) (cs := [.int .i64 1, .int .i64 1, .string ByteArray.empty, .int .i64 0]) ⟨rfl, ⟨by decide, by decide⟩, ⟨by decide, by decide⟩, ⟨by decide, by decide⟩, by decide⟩ rfl g1 (by omega), SlP.nil⟩
    · exact SlA.one (x := (⟨1, 1, 1⟩ : Sp)) (cs := [.int .i64 1, .int .i64 1, .int .i64 1]) ⟨rfl, ⟨by decide, by decide⟩, ⟨by decide, by decide⟩, ⟨by decide, by decide⟩⟩ rfl g2 (by omega)
  have hE : jnE T9 (.mk [] []) C9 [] = 0 := by unfold jnE; rw [jn9_ok]; rfl
  have hT : jnT T9 (.mk [] []) C9 [] = T9 := jn9_T
  have hC : jnC T9 (.mk [] []) C9 [] = C9 := jn9_C
  have HR : Hid (caR T9 C9 = true) := by have := jn9_ok; rw [Bool.and_eq_true] at this; exact this.1
  have HZ : Hid (T9.sz ≤ 4000 ∧ C9.length ≤ 20000) := by unfold Hid; decide
  go_enter Tryz.func23, Tryz.ntmps23
  go_wp2_with fail
  have h1 := HX.out _ (Below.refl _ _)
  refine (cJoin_any C9 [] T9 (.mk [] []) _ _ _ _ _ _ ((((w.alloc (.cells #[.int .i64 1, .int .i64 1] 42)).alloc (.cells #[.int .i64 1, .int .i64 1, .string ByteArray.empty, .int .i64 0] 63)).alloc (.cells #[.int .i64 1, .int .i64 1, .int .i64 1] 55)).alloc (.cells #[.slice (some ⟨w.heap.size + 1, 0, none⟩) 1 1, .slice none 0 0, .slice (some ⟨w.heap.size + 1 + 1, 0, none⟩) 1 1] 29)) h1.2.1 rd_empty h1.2.2.1 SlP.nil HZ.out.1 (by decide) HZ.out.2 (by decide)).mono ?_
  rw [hE, hT, hC]
  rintro e w1 ⟨ve, vk, vc, rfl, hrd, hsc, hb1⟩
  clear h1 hE hT hC
  generalize T9 = T at *
  generalize C9 = C at *
  obtain ⟨Ae, ne, Ak, nk, rfl, rfl⟩ := rda_shape hrd
  obtain ⟨Ac, nc, rfl⟩ := hsc.shape
  have hbk1 := hid (hb1.mono (show w.heap.size + 4 ≤ _ by simp))
  have HT : Hid (∀ w', Below w1.heap.size w1 w' → T.rd w' w'.heap.size (.slice Ae T.es.length ne) (.slice Ak T.ks.length nk)) := fun w' hb => rda_rd hrd (fun b hb => hb.2) hb
  have HCt : Hid (∀ w', Below w1.heap.size w1 w' → SlP w' w'.heap.size 3 SpE (.slice Ac C.length nc) C) := fun w' hb => hsc.slp (fun b hb => hb.2) hb
  obtain ⟨hB1, hr1, hc1, hs1, q0, q1, q2⟩ := HX.out w1 hbk1.out
  have hlt : w.heap.size + 3 < w1.heap.size := by omega
  have hne : w.heap.size + 3 ≠ w1.heap.size := by omega
  clear hrd hsc hb1 hr1 hc1
  go_wp2_with fail
  have hv1 := below_via (Below.refl _ (w1.alloc (.cells #[.slice Ae T.es.length ne, .slice Ak T.ks.length nk, .slice Ac C.length nc] 29)))
  have h2 := HX.out _ (hbk1.out.trans (hv1.mono hs1))
  have hSM : (trEq T T && decide (C = C)) = true := by simp [trEq]
  refine (r09same_any T T C C _ _ _ _ _ _ _ (HT.out _ hv1) h2.2.1 (HCt.out _ hv1) h2.2.2.1).mono ?_
  rw [hSM]
  rintro e w2 ⟨rfl, hb2⟩
  have hbk2 := hid (hbk1.out.trans ((hv1.trans (hb2.mono (by simp))).mono hs1))
  obtain ⟨hB2, hr2, hc2, hs2, q3, q4, q5⟩ := HX.out w2 hbk2.out
  clear h2 hv1 hSM hb2 q0 q1 q2
  go_wp2_with fail
  refine (caright_any T C _ _ _ w2 hr2 hc2 HZ.out.1 HZ.out.2).mono ?_
  rw [HR.out]
  rintro e w3 ⟨rfl, hb3⟩
  clear hr2 hc2
  go_wp2_with fail
  go_ret
  exact ⟨rfl, hB2.trans (hb3.mono (by omega))⟩
end Go.Proofs.YtkjijbogbelilaaGreat

namespace Go.Proofs.YtkjijbogbelilaaGreat
open Go.RowKit
set_option maxRecDepth 100000

/-- Two that are right, joined: what tributarylaw09.join tells. -/
theorem jnK_eq {x y : Kn} (hx : KOk x) (hy : KOk y) : jnT x.1 y.1 x.2 y.2 = (jn x y).1 ∧ jnC x.1 y.1 x.2 y.2 = (jn x y).2 := (jn_ok hx hy).2
theorem sml_all3 {x y z : Kn} (h : ([x, y, z] : List Kn).all (fun x => sml9 x.1 x.2 40) = true) : (x.1.sz ≤ 40 ∧ x.2.length ≤ 40) ∧ (y.1.sz ≤ 40 ∧ y.2.length ≤ 40) ∧ (z.1.sz ≤ 40 ∧ z.2.length ≤ 40) := by
  simp only [List.all_cons, List.all_nil, Bool.and_true, Bool.and_eq_true] at h
  exact ⟨sml9_sz h.1, sml9_sz h.2.1, sml9_sz h.2.2⟩
theorem car_all3 {x y z : Kn} (h : ([x, y, z] : List Kn).all (fun x => caR x.1 x.2) = true) : KOk x ∧ KOk y ∧ KOk z := by
  simp only [List.all_cons, List.all_nil, Bool.and_true, Bool.and_eq_true] at h
  exact ⟨caR_iff.1 h.1, caR_iff.1 h.2.1, caR_iff.1 h.2.2⟩
theorem jnK_sz {x y : Kn} (hx : KOk x) (hy : KOk y) : (jn x y).1.sz ≤ x.1.sz + y.1.sz ∧ (jn x y).2.length ≤ x.2.length + y.2.length := jn_sz hx hy
theorem lat_plain {a b c : Tr} {ac bc cc : List Sp} (h : KOk (a, ac) ∧ KOk (b, bc) ∧ KOk (c, cc)) (z1 : a.sz ≤ 40) (z2 : ac.length ≤ 40) (z3 : b.sz ≤ 40) (z4 : bc.length ≤ 40) (z5 : c.sz ≤ 40) (z6 : cc.length ≤ 40) :
    ∃ (X1 X2 X5 X6 : Tr) (Y1 Y2 Y5 Y6 : List Sp), Hid (jnT a a ac ac = X1) ∧ Hid (jnT a b ac bc = X2) ∧ Hid (jnT b a bc ac = X2) ∧ Hid (jnT X2 c Y2 cc = X5) ∧ Hid (jnT b c bc cc = X6) ∧ Hid (jnT a X6 ac Y6 = X5) ∧
      Hid (jnC a a ac ac = Y1) ∧ Hid (jnC a b ac bc = Y2) ∧ Hid (jnC b a bc ac = Y2) ∧ Hid (jnC X2 c Y2 cc = Y5) ∧ Hid (jnC b c bc cc = Y6) ∧ Hid (jnC a X6 ac Y6 = Y5) ∧
      Hid (kSame X1 a Y1 ac = true) ∧ Hid (kSame X2 X2 Y2 Y2 = true) ∧ Hid (kSame X5 X5 Y5 Y5 = true) ∧ Hid (caR X2 Y2 = true) ∧
      X1.sz ≤ 80 ∧ X2.sz ≤ 80 ∧ X5.sz ≤ 120 ∧ X6.sz ≤ 80 ∧ Y1.length ≤ 80 ∧ Y2.length ≤ 80 ∧ Y5.length ≤ 120 ∧ Y6.length ≤ 80 := by
  obtain ⟨ha, hb, hc⟩ := h
  have hab := jn_okK ha hb
  have hbc := jn_okK hb hc
  have s1 := jn_sz ha ha
  have s2 := jn_sz ha hb
  have s3 := jn_sz hab hc
  have s4 := jn_sz hb hc
  have e1 := jnK_eq ha ha
  have e2 := jnK_eq ha hb
  have e3 := jnK_eq hb ha
  have e4 := jnK_eq hab hc
  have e5 := jnK_eq hb hc
  have e6 := jnK_eq ha hbc
  rw [jn_comm hb ha] at e3
  rw [← jn_assoc ha hb hc] at e6
  simp only at s1 s2 s3 s4
  refine ⟨(jn (a, ac) (a, ac)).1, (jn (a, ac) (b, bc)).1, (jn (jn (a, ac) (b, bc)) (c, cc)).1, (jn (b, bc) (c, cc)).1, (jn (a, ac) (a, ac)).2, (jn (a, ac) (b, bc)).2, (jn (jn (a, ac) (b, bc)) (c, cc)).2, (jn (b, bc) (c, cc)).2, e1.1, e2.1, e3.1, e4.1, e5.1, e6.1, e1.2, e2.2, e3.2, e4.2, e5.2, e6.2, ?_, ?_, ?_, ?_, by omega, by omega, by omega, by omega, by omega, by omega, by omega, by omega⟩
  · exact (kSame_ok (jn_okK ha ha) ha).2 (jn_idem ha)
  · exact (kSame_ok hab hab).2 rfl
  · exact (kSame_ok (jn_okK hab hc) (jn_okK hab hc)).2 rfl
  · exact caR_iff.2 hab
set_option maxHeartbeats 8000000 in
theorem lawCL_any (a : Tr) (ac : List Sp) (b : Tr) (bc : List Sp) (c : Tr) (cc : List Sp) (w : World) (ve0 vk0 vc0 ve1 vk1 vc1 ve2 vk2 vc2 : Value) (h0 : a.rd w w.heap.size ve0 vk0) (hc0 : SlP w w.heap.size 3 SpE vc0 ac) (h1 : b.rd w w.heap.size ve1 vk1) (hc1 : SlP w w.heap.size 3 SpE vc1 bc) (h2 : c.rd w w.heap.size ve2 vk2) (hc2 : SlP w w.heap.size 3 SpE vc2 cc) :
    Calls Tryz.prog 7 #[.agg #[ve0, vk0, vc0], .agg #[ve1, vk1, vc1], .agg #[ve2, vk2, vc2]] w fun e w' => e = .returned (.bool true) ∧ Below w.heap.size w w' := by
  have HC0 : Hid (∀ w', Below w.heap.size w w' → a.rd w' w'.heap.size ve0 vk0) := fun w' hb => rd_below hb hb.size _ _ _ h0
  have HD0 : Hid (∀ w', Below w.heap.size w w' → SlP w' w'.heap.size 3 SpE vc0 ac) := fun w' hb => hc0.imp hb hb.size fun _ _ _ h => h
  obtain ⟨A0, n0, B0, m0, rfl, rfl⟩ := rd_shape h0
  obtain ⟨D0, k0, rfl, _⟩ := hc0
  clear h0
  have HC1 : Hid (∀ w', Below w.heap.size w w' → b.rd w' w'.heap.size ve1 vk1) := fun w' hb => rd_below hb hb.size _ _ _ h1
  have HD1 : Hid (∀ w', Below w.heap.size w w' → SlP w' w'.heap.size 3 SpE vc1 bc) := fun w' hb => hc1.imp hb hb.size fun _ _ _ h => h
  obtain ⟨A1, n1, B1, m1, rfl, rfl⟩ := rd_shape h1
  obtain ⟨D1, k1, rfl, _⟩ := hc1
  clear h1
  have HC2 : Hid (∀ w', Below w.heap.size w w' → c.rd w' w'.heap.size ve2 vk2) := fun w' hb => rd_below hb hb.size _ _ _ h2
  have HD2 : Hid (∀ w', Below w.heap.size w w' → SlP w' w'.heap.size 3 SpE vc2 cc) := fun w' hb => hc2.imp hb hb.size fun _ _ _ h => h
  obtain ⟨A2, n2, B2, m2, rfl, rfl⟩ := rd_shape h2
  obtain ⟨D2, k2, rfl, _⟩ := hc2
  clear h2
  have HX0 : Hid (∀ W, Below (w.heap.size + 3) (((w.alloc (.cells #[.slice A0 a.es.length n0, .slice B0 a.ks.length m0, .slice D0 ac.length k0] 29)).alloc (.cells #[.slice A1 b.es.length n1, .slice B1 b.ks.length m1, .slice D1 bc.length k1] 29)).alloc (.cells #[.slice A2 c.es.length n2, .slice B2 c.ks.length m2, .slice D2 cc.length k2] 29)) W → (Below w.heap.size w W ∧ w.heap.size + 3 ≤ (W).heap.size ∧ a.rd W (W).heap.size (.slice A0 a.es.length n0) (.slice B0 a.ks.length m0) ∧ SlP W (W).heap.size 3 SpE (.slice D0 ac.length k0) ac ∧ b.rd W (W).heap.size (.slice A1 b.es.length n1) (.slice B1 b.ks.length m1) ∧ SlP W (W).heap.size 3 SpE (.slice D1 bc.length k1) bc ∧ c.rd W (W).heap.size (.slice A2 c.es.length n2) (.slice B2 c.ks.length m2) ∧ SlP W (W).heap.size 3 SpE (.slice D2 cc.length k2) cc ∧ (W).cell? ⟨w.heap.size, 0, none⟩ = some (.slice A0 a.es.length n0) ∧ (W).cell? ⟨w.heap.size, 1, none⟩ = some (.slice B0 a.ks.length m0) ∧ (W).cell? ⟨w.heap.size, 2, none⟩ = some (.slice D0 ac.length k0) ∧ (W).cell? ⟨(w.heap.size + 1), 0, none⟩ = some (.slice A1 b.es.length n1) ∧ (W).cell? ⟨(w.heap.size + 1), 1, none⟩ = some (.slice B1 b.ks.length m1) ∧ (W).cell? ⟨(w.heap.size + 1), 2, none⟩ = some (.slice D1 bc.length k1) ∧ (W).cell? ⟨(w.heap.size + 2), 0, none⟩ = some (.slice A2 c.es.length n2) ∧ (W).cell? ⟨(w.heap.size + 2), 1, none⟩ = some (.slice B2 c.ks.length m2) ∧ (W).cell? ⟨(w.heap.size + 2), 2, none⟩ = some (.slice D2 cc.length k2))) := fun W hW => by
    have g0 : W.heap[w.heap.size]? = some (.cells #[.slice A0 a.es.length n0, .slice B0 a.ks.length m0, .slice D0 ac.length k0] 29 (0, 0)) := (hW.block _ (by omega)).trans ((heap_old (by simp <;> omega)).trans ((heap_old (by simp <;> omega)).trans (heap_new rfl)))
    have g1 : W.heap[(w.heap.size + 1)]? = some (.cells #[.slice A1 b.es.length n1, .slice B1 b.ks.length m1, .slice D1 bc.length k1] 29 (0, 0)) := (hW.block _ (by omega)).trans ((heap_old (by simp <;> omega)).trans (heap_new (by simp)))
    have g2 : W.heap[(w.heap.size + 2)]? = some (.cells #[.slice A2 c.es.length n2, .slice B2 c.ks.length m2, .slice D2 cc.length k2] 29 (0, 0)) := (hW.block _ (by omega)).trans (heap_new (by simp))
    have hB : Below w.heap.size w W := ((((Below.refl _ w).alloc (Nat.le_refl _) _).alloc (by simp <;> omega) _).alloc (by simp <;> omega) _).trans (hW.mono (by omega))
    exact ⟨hB, by have := hW.size; simpa using this, HC0.out _ hB, HD0.out _ hB, HC1.out _ hB, HD1.out _ hB, HC2.out _ hB, HD2.out _ hB, cell_cells (i := 0) g0, cell_cells (i := 1) g0, cell_cells (i := 2) g0, cell_cells (i := 0) g1, cell_cells (i := 1) g1, cell_cells (i := 2) g1, cell_cells (i := 0) g2, cell_cells (i := 1) g2, cell_cells (i := 2) g2⟩
  have hnb1 : w.heap.size + 1 ≠ w.heap.size := by omega
  have hnb2 : w.heap.size + 2 ≠ w.heap.size := by omega
  go_enter Tryz.func7, Tryz.ntmps7
  obtain ⟨SM, HSM⟩ : ∃ q : Bool, Hid (([(a, ac), (b, bc), (c, cc)] : List Kn).all (fun x => sml9 x.1 x.2 40) = q) := ⟨_, rfl⟩
  obtain ⟨RM, HRM⟩ : ∃ q : Bool, Hid (([(a, ac), (b, bc), (c, cc)] : List Kn).all (fun x => caR x.1 x.2) = q) := ⟨_, rfl⟩
  go_wp2_with fail
  obtain ⟨hB, hs, rt0, rc0, rt1, rc1, rt2, rc2, c00, c01, c02, c10, c11, c12, c20, c21, c22⟩ := HX0.out _ (Below.refl _ _)
  refine (awake09_any _).mono ?_
  rintro e w1 ⟨rfl, hb⟩
  have hbk1 : Hid (Below (w.heap.size + 3) (((w.alloc (.cells #[.slice A0 a.es.length n0, .slice B0 a.ks.length m0, .slice D0 ac.length k0] 29)).alloc (.cells #[.slice A1 b.es.length n1, .slice B1 b.ks.length m1, .slice D1 bc.length k1] 29)).alloc (.cells #[.slice A2 c.es.length n2, .slice B2 c.ks.length m2, .slice D2 cc.length k2] 29)) w1) := hid (hb.mono (by first | omega | (simp; done) | (simp; omega)))
  clear hb
  clear hB hs rt0 rc0 rt1 rc1 rt2 rc2 c00 c01 c02 c10 c11 c12 c20 c21 c22
  obtain ⟨hB, hs, rt0, rc0, rt1, rc1, rt2, rc2, c00, c01, c02, c10, c11, c12, c20, c21, c22⟩ := HX0.out _ hbk1.out
  go_wp2_with fail
  have hsl_le : (w.heap.size + 3) ≤ (w1).heap.size := (by first | omega | (simp; done) | (simp; omega))
  clear hB hs rt0 rc0 rt1 rc1 rt2 rc2 c00 c01 c02 c10 c11 c12 c20 c21 c22
  obtain ⟨hB, hs, rt0, rc0, rt1, rc1, rt2, rc2, c00, c01, c02, c10, c11, c12, c20, c21, c22⟩ := HX0.out _ (hbk1.out.alloc hsl_le (.cells #[.slice A0 a.es.length n0, .slice B0 a.ks.length m0, .slice D0 ac.length k0, .slice A1 b.es.length n1, .slice B1 b.ks.length m1, .slice D1 bc.length k1, .slice A2 c.es.length n2, .slice B2 c.ks.length m2, .slice D2 cc.length k2] 29))
  refine (small09_any [(a, ac), (b, bc), (c, cc)] _ _ (slp3 (heap_new rfl) (kn_at rt0 rc0) (kn_at rt1 rc1) (kn_at rt2 rc2) (by simp))).mono ?_
  rw [HSM.out]
  rintro e w2 ⟨rfl, hb⟩
  have hbk2 : Hid (Below (w.heap.size + 3) (((w.alloc (.cells #[.slice A0 a.es.length n0, .slice B0 a.ks.length m0, .slice D0 ac.length k0] 29)).alloc (.cells #[.slice A1 b.es.length n1, .slice B1 b.ks.length m1, .slice D1 bc.length k1] 29)).alloc (.cells #[.slice A2 c.es.length n2, .slice B2 c.ks.length m2, .slice D2 cc.length k2] 29)) w2) := hid ((hbk1.out.alloc hsl_le (.cells #[.slice A0 a.es.length n0, .slice B0 a.ks.length m0, .slice D0 ac.length k0, .slice A1 b.es.length n1, .slice B1 b.ks.length m1, .slice D1 bc.length k1, .slice A2 c.es.length n2, .slice B2 c.ks.length m2, .slice D2 cc.length k2] 29)).trans (hb.mono (by first | omega | (simp; done) | (simp; omega))))
  clear hb
  clear hB hs rt0 rc0 rt1 rc1 rt2 rc2 c00 c01 c02 c10 c11 c12 c20 c21 c22
  obtain ⟨hB, hs, rt0, rc0, rt1, rc1, rt2, rc2, c00, c01, c02, c10, c11, c12, c20, c21, c22⟩ := HX0.out _ hbk2.out
  cases SM
  · skip
    go_wp2_with fail
    refine (awake09_any _).mono ?_
    rintro e w3 ⟨rfl, hb⟩
    have hbk3 : Hid (Below (w.heap.size + 3) (((w.alloc (.cells #[.slice A0 a.es.length n0, .slice B0 a.ks.length m0, .slice D0 ac.length k0] 29)).alloc (.cells #[.slice A1 b.es.length n1, .slice B1 b.ks.length m1, .slice D1 bc.length k1] 29)).alloc (.cells #[.slice A2 c.es.length n2, .slice B2 c.ks.length m2, .slice D2 cc.length k2] 29)) w3) := hid (hbk2.out.trans (hb.mono (by first | omega | (simp; done) | (simp; omega))))
    clear hb
    clear hB hs rt0 rc0 rt1 rc1 rt2 rc2 c00 c01 c02 c10 c11 c12 c20 c21 c22
    obtain ⟨hB, hs, rt0, rc0, rt1, rc1, rt2, rc2, c00, c01, c02, c10, c11, c12, c20, c21, c22⟩ := HX0.out _ hbk3.out
    go_wp2_with fail
    go_ret
    exact ⟨rfl, hB⟩
  obtain ⟨⟨z1, z2⟩, ⟨z3, z4⟩, z5, z6⟩ := sml_all3 HSM.out
  simp only at z1 z2 z3 z4 z5 z6
  go_wp2_with fail
  have hsl_le : (w.heap.size + 3) ≤ (w2).heap.size := (by first | omega | (simp; done) | (simp; omega))
  clear hB hs rt0 rc0 rt1 rc1 rt2 rc2 c00 c01 c02 c10 c11 c12 c20 c21 c22
  obtain ⟨hB, hs, rt0, rc0, rt1, rc1, rt2, rc2, c00, c01, c02, c10, c11, c12, c20, c21, c22⟩ := HX0.out _ (hbk2.out.alloc hsl_le (.cells #[.slice A0 a.es.length n0, .slice B0 a.ks.length m0, .slice D0 ac.length k0, .slice A1 b.es.length n1, .slice B1 b.ks.length m1, .slice D1 bc.length k1, .slice A2 c.es.length n2, .slice B2 c.ks.length m2, .slice D2 cc.length k2] 29))
  refine (right09_any [(a, ac), (b, bc), (c, cc)] _ _ (slp3 (heap_new rfl) (kn_at rt0 rc0) (kn_at rt1 rc1) (kn_at rt2 rc2) (by simp)) (fun x hx => by simp at hx; rcases hx with rfl | rfl | rfl <;> exact ⟨by simp only; omega, by simp only; omega⟩)).mono ?_
  rw [HRM.out]
  rintro e w3 ⟨rfl, hb⟩
  have hbk3 : Hid (Below (w.heap.size + 3) (((w.alloc (.cells #[.slice A0 a.es.length n0, .slice B0 a.ks.length m0, .slice D0 ac.length k0] 29)).alloc (.cells #[.slice A1 b.es.length n1, .slice B1 b.ks.length m1, .slice D1 bc.length k1] 29)).alloc (.cells #[.slice A2 c.es.length n2, .slice B2 c.ks.length m2, .slice D2 cc.length k2] 29)) w3) := hid ((hbk2.out.alloc hsl_le (.cells #[.slice A0 a.es.length n0, .slice B0 a.ks.length m0, .slice D0 ac.length k0, .slice A1 b.es.length n1, .slice B1 b.ks.length m1, .slice D1 bc.length k1, .slice A2 c.es.length n2, .slice B2 c.ks.length m2, .slice D2 cc.length k2] 29)).trans (hb.mono (by first | omega | (simp; done) | (simp; omega))))
  clear hb
  clear hB hs rt0 rc0 rt1 rc1 rt2 rc2 c00 c01 c02 c10 c11 c12 c20 c21 c22
  obtain ⟨hB, hs, rt0, rc0, rt1, rc1, rt2, rc2, c00, c01, c02, c10, c11, c12, c20, c21, c22⟩ := HX0.out _ hbk3.out
  cases RM
  · skip
    go_wp2_with fail
    refine (awake09_any _).mono ?_
    rintro e w4 ⟨rfl, hb⟩
    have hbk4 : Hid (Below (w.heap.size + 3) (((w.alloc (.cells #[.slice A0 a.es.length n0, .slice B0 a.ks.length m0, .slice D0 ac.length k0] 29)).alloc (.cells #[.slice A1 b.es.length n1, .slice B1 b.ks.length m1, .slice D1 bc.length k1] 29)).alloc (.cells #[.slice A2 c.es.length n2, .slice B2 c.ks.length m2, .slice D2 cc.length k2] 29)) w4) := hid (hbk3.out.trans (hb.mono (by first | omega | (simp; done) | (simp; omega))))
    clear hb
    clear hB hs rt0 rc0 rt1 rc1 rt2 rc2 c00 c01 c02 c10 c11 c12 c20 c21 c22
    obtain ⟨hB, hs, rt0, rc0, rt1, rc1, rt2, rc2, c00, c01, c02, c10, c11, c12, c20, c21, c22⟩ := HX0.out _ hbk4.out
    go_wp2_with fail
    go_ret
    exact ⟨rfl, hB⟩
  obtain ⟨X1, X2, X5, X6, Y1, Y2, Y5, Y6, J1, J2, J3, J4, J5, J6, P1, P2, P3, P4, P5, P6, E1, E2, E3, E4, v1, v2, v3, v4, v5, v6, v7, v8⟩ := lat_plain (car_all3 HRM.out) z1 z2 z3 z4 z5 z6
  go_upto_region 3 with (fail)
  have HK1 : Hid (∀ W, Below (w.heap.size + 3) (((w.alloc (.cells #[.slice A0 a.es.length n0, .slice B0 a.ks.length m0, .slice D0 ac.length k0] 29)).alloc (.cells #[.slice A1 b.es.length n1, .slice B1 b.ks.length m1, .slice D1 bc.length k1] 29)).alloc (.cells #[.slice A2 c.es.length n2, .slice B2 c.ks.length m2, .slice D2 cc.length k2] 29)) W → ((W).cell? ⟨w.heap.size, 0, none⟩ = some (.slice A0 a.es.length n0) ∧ (W).cell? ⟨w.heap.size, 1, none⟩ = some (.slice B0 a.ks.length m0) ∧ (W).cell? ⟨w.heap.size, 2, none⟩ = some (.slice D0 ac.length k0) ∧ (W).cell? ⟨(w.heap.size + 1), 0, none⟩ = some (.slice A1 b.es.length n1) ∧ (W).cell? ⟨(w.heap.size + 1), 1, none⟩ = some (.slice B1 b.ks.length m1) ∧ (W).cell? ⟨(w.heap.size + 1), 2, none⟩ = some (.slice D1 bc.length k1) ∧ (W).cell? ⟨(w.heap.size + 2), 0, none⟩ = some (.slice A2 c.es.length n2) ∧ (W).cell? ⟨(w.heap.size + 2), 1, none⟩ = some (.slice B2 c.ks.length m2) ∧ (W).cell? ⟨(w.heap.size + 2), 2, none⟩ = some (.slice D2 cc.length k2))) := fun W hW => by
    obtain ⟨_, _, _, _, _, _, _, _, z_c00, z_c01, z_c02, z_c10, z_c11, z_c12, z_c20, z_c21, z_c22⟩ := HX0.out W hW
    exact ⟨z_c00, z_c01, z_c02, z_c10, z_c11, z_c12, z_c20, z_c21, z_c22⟩
  have Hrt0_1 : Hid (∀ W, Below (w.heap.size + 3) (((w.alloc (.cells #[.slice A0 a.es.length n0, .slice B0 a.ks.length m0, .slice D0 ac.length k0] 29)).alloc (.cells #[.slice A1 b.es.length n1, .slice B1 b.ks.length m1, .slice D1 bc.length k1] 29)).alloc (.cells #[.slice A2 c.es.length n2, .slice B2 c.ks.length m2, .slice D2 cc.length k2] 29)) W → a.rd W (W).heap.size (.slice A0 a.es.length n0) (.slice B0 a.ks.length m0)) := fun W hW => by
    obtain ⟨_, _, z, _, _, _, _, _, _, _, _, _, _, _, _, _, _⟩ := HX0.out W hW
    exact z
  have Hrc0_1 : Hid (∀ W, Below (w.heap.size + 3) (((w.alloc (.cells #[.slice A0 a.es.length n0, .slice B0 a.ks.length m0, .slice D0 ac.length k0] 29)).alloc (.cells #[.slice A1 b.es.length n1, .slice B1 b.ks.length m1, .slice D1 bc.length k1] 29)).alloc (.cells #[.slice A2 c.es.length n2, .slice B2 c.ks.length m2, .slice D2 cc.length k2] 29)) W → SlP W (W).heap.size 3 SpE (.slice D0 ac.length k0) ac) := fun W hW => by
    obtain ⟨_, _, _, z, _, _, _, _, _, _, _, _, _, _, _, _, _⟩ := HX0.out W hW
    exact z
  have Hrt1_1 : Hid (∀ W, Below (w.heap.size + 3) (((w.alloc (.cells #[.slice A0 a.es.length n0, .slice B0 a.ks.length m0, .slice D0 ac.length k0] 29)).alloc (.cells #[.slice A1 b.es.length n1, .slice B1 b.ks.length m1, .slice D1 bc.length k1] 29)).alloc (.cells #[.slice A2 c.es.length n2, .slice B2 c.ks.length m2, .slice D2 cc.length k2] 29)) W → b.rd W (W).heap.size (.slice A1 b.es.length n1) (.slice B1 b.ks.length m1)) := fun W hW => by
    obtain ⟨_, _, _, _, z, _, _, _, _, _, _, _, _, _, _, _, _⟩ := HX0.out W hW
    exact z
  have Hrc1_1 : Hid (∀ W, Below (w.heap.size + 3) (((w.alloc (.cells #[.slice A0 a.es.length n0, .slice B0 a.ks.length m0, .slice D0 ac.length k0] 29)).alloc (.cells #[.slice A1 b.es.length n1, .slice B1 b.ks.length m1, .slice D1 bc.length k1] 29)).alloc (.cells #[.slice A2 c.es.length n2, .slice B2 c.ks.length m2, .slice D2 cc.length k2] 29)) W → SlP W (W).heap.size 3 SpE (.slice D1 bc.length k1) bc) := fun W hW => by
    obtain ⟨_, _, _, _, _, z, _, _, _, _, _, _, _, _, _, _, _⟩ := HX0.out W hW
    exact z
  have Hrt2_1 : Hid (∀ W, Below (w.heap.size + 3) (((w.alloc (.cells #[.slice A0 a.es.length n0, .slice B0 a.ks.length m0, .slice D0 ac.length k0] 29)).alloc (.cells #[.slice A1 b.es.length n1, .slice B1 b.ks.length m1, .slice D1 bc.length k1] 29)).alloc (.cells #[.slice A2 c.es.length n2, .slice B2 c.ks.length m2, .slice D2 cc.length k2] 29)) W → c.rd W (W).heap.size (.slice A2 c.es.length n2) (.slice B2 c.ks.length m2)) := fun W hW => by
    obtain ⟨_, _, _, _, _, _, z, _, _, _, _, _, _, _, _, _, _⟩ := HX0.out W hW
    exact z
  have Hrc2_1 : Hid (∀ W, Below (w.heap.size + 3) (((w.alloc (.cells #[.slice A0 a.es.length n0, .slice B0 a.ks.length m0, .slice D0 ac.length k0] 29)).alloc (.cells #[.slice A1 b.es.length n1, .slice B1 b.ks.length m1, .slice D1 bc.length k1] 29)).alloc (.cells #[.slice A2 c.es.length n2, .slice B2 c.ks.length m2, .slice D2 cc.length k2] 29)) W → SlP W (W).heap.size 3 SpE (.slice D2 cc.length k2) cc) := fun W hW => by
    obtain ⟨_, _, _, _, _, _, _, z, _, _, _, _, _, _, _, _, _⟩ := HX0.out W hW
    exact z
  have HS_1 : Hid (∀ W, Below (w.heap.size + 3) (((w.alloc (.cells #[.slice A0 a.es.length n0, .slice B0 a.ks.length m0, .slice D0 ac.length k0] 29)).alloc (.cells #[.slice A1 b.es.length n1, .slice B1 b.ks.length m1, .slice D1 bc.length k1] 29)).alloc (.cells #[.slice A2 c.es.length n2, .slice B2 c.ks.length m2, .slice D2 cc.length k2] 29)) W → (w.heap.size + 3) ≤ W.heap.size) := fun W hW => by
    have := hW.size
    first | omega | (simp at this; omega)
  have hsb1 := HS_1.out _ hbk3.out
  clear hB rt0 rc0 rt1 rc1 rt2 rc2
  go_region_held3 (fun W => (W).cell? ⟨w.heap.size, 0, none⟩ = some (.slice A0 a.es.length n0) ∧ (W).cell? ⟨w.heap.size, 1, none⟩ = some (.slice B0 a.ks.length m0) ∧ (W).cell? ⟨w.heap.size, 2, none⟩ = some (.slice D0 ac.length k0) ∧ (W).cell? ⟨(w.heap.size + 1), 0, none⟩ = some (.slice A1 b.es.length n1) ∧ (W).cell? ⟨(w.heap.size + 1), 1, none⟩ = some (.slice B1 b.ks.length m1) ∧ (W).cell? ⟨(w.heap.size + 1), 2, none⟩ = some (.slice D1 bc.length k1) ∧ (W).cell? ⟨(w.heap.size + 2), 0, none⟩ = some (.slice A2 c.es.length n2) ∧ (W).cell? ⟨(w.heap.size + 2), 1, none⟩ = some (.slice B2 c.ks.length m2) ∧ (W).cell? ⟨(w.heap.size + 2), 2, none⟩ = some (.slice D2 cc.length k2))
    (first | go_keep | exact HK1.out _ hbr15.out | exact HK1.out _ (hbr15.out.trans (by go_grown)) | exact HK1.out _ hbr14.out | exact HK1.out _ (hbr14.out.trans (by go_grown)) | exact HK1.out _ hbr13.out | exact HK1.out _ (hbr13.out.trans (by go_grown)) | exact HK1.out _ hbr12.out | exact HK1.out _ (hbr12.out.trans (by go_grown)) | exact HK1.out _ hbr11.out | exact HK1.out _ (hbr11.out.trans (by go_grown)) | exact HK1.out _ hbr10.out | exact HK1.out _ (hbr10.out.trans (by go_grown)) | exact HK1.out _ hbr9.out | exact HK1.out _ (hbr9.out.trans (by go_grown)) | exact HK1.out _ hbr8.out | exact HK1.out _ (hbr8.out.trans (by go_grown)) | exact HK1.out _ hbr7.out | exact HK1.out _ (hbr7.out.trans (by go_grown)) | exact HK1.out _ hbr6.out | exact HK1.out _ (hbr6.out.trans (by go_grown)) | exact HK1.out _ hbr5.out | exact HK1.out _ (hbr5.out.trans (by go_grown)) | exact HK1.out _ hbr4.out | exact HK1.out _ (hbr4.out.trans (by go_grown)) | exact HK1.out _ (hbk3.out.trans (by go_grown)) | fail)
    (first
      | (go_at_call 36; go_loud ((refine (caright_any X2 Y2 _ _ _ _ (HRx8.out _ (by go_grown)) (HLx8.out _ (by go_grown)) (by omega) (by omega)).mono ?_); rw [E4.out]; rintro e w15 ⟨rfl, hb⟩; have hbr15 : Hid (Below (w.heap.size + 3) (((w.alloc (.cells #[.slice A0 a.es.length n0, .slice B0 a.ks.length m0, .slice D0 ac.length k0] 29)).alloc (.cells #[.slice A1 b.es.length n1, .slice B1 b.ks.length m1, .slice D1 bc.length k1] 29)).alloc (.cells #[.slice A2 c.es.length n2, .slice B2 c.ks.length m2, .slice D2 cc.length k2] 29)) w15) := hid (Below.trans (hbr14.out.trans (by go_grown)) (hb.mono (by first | omega | (simp; done) | (simp; omega)))); have hsr15 := HS_1.out _ hbr15.out; have hch14_15 : Hid (Below w14.heap.size w14 w15) := hid (Below.trans (by go_grown) (hb.mono (by first | omega | (simp; done) | (simp; omega)))); have hch4_15 : Hid (Below w4.heap.size w4 w15) := hid (hch4_14.out.trans (hch14_15.out.mono hch4_14.out.size)); have hch5_15 : Hid (Below w5.heap.size w5 w15) := hid (hch5_14.out.trans (hch14_15.out.mono hch5_14.out.size)); have hch6_15 : Hid (Below w6.heap.size w6 w15) := hid (hch6_14.out.trans (hch14_15.out.mono hch6_14.out.size)); have hch7_15 : Hid (Below w7.heap.size w7 w15) := hid (hch7_14.out.trans (hch14_15.out.mono hch7_14.out.size)); have hch8_15 : Hid (Below w8.heap.size w8 w15) := hid (hch8_14.out.trans (hch14_15.out.mono hch8_14.out.size)); have hch9_15 : Hid (Below w9.heap.size w9 w15) := hid (hch9_14.out.trans (hch14_15.out.mono hch9_14.out.size)); have hch10_15 : Hid (Below w10.heap.size w10 w15) := hid (hch10_14.out.trans (hch14_15.out.mono hch10_14.out.size)); have hch11_15 : Hid (Below w11.heap.size w11 w15) := hid (hch11_14.out.trans (hch14_15.out.mono hch11_14.out.size)); have hch12_15 : Hid (Below w12.heap.size w12 w15) := hid (hch12_14.out.trans (hch14_15.out.mono hch12_14.out.size)); have hch13_15 : Hid (Below w13.heap.size w13 w15) := hid (hch13_14.out.trans (hch14_15.out.mono hch13_14.out.size)); clear hb))
      | (go_at_call 35; go_loud ((refine (l09join_any ac bc a b _ _ _ _ _ _ _ (Hrt0_1.out _ (hbr13.out.trans (by go_grown))) (Hrt1_1.out _ (hbr13.out.trans (by go_grown))) (Hrc0_1.out _ (hbr13.out.trans (by go_grown))) (Hrc1_1.out _ (hbr13.out.trans (by go_grown))) (by omega) (by omega) (by omega) (by omega)).mono ?_); rw [J2.out, P2.out]; rintro e w14 ⟨xe14, xk14, xc14, rfl, hrd14, hsl14, hb⟩; have hbr14 : Hid (Below (w.heap.size + 3) (((w.alloc (.cells #[.slice A0 a.es.length n0, .slice B0 a.ks.length m0, .slice D0 ac.length k0] 29)).alloc (.cells #[.slice A1 b.es.length n1, .slice B1 b.ks.length m1, .slice D1 bc.length k1] 29)).alloc (.cells #[.slice A2 c.es.length n2, .slice B2 c.ks.length m2, .slice D2 cc.length k2] 29)) w14) := hid (Below.trans (hbr13.out.trans (by go_grown)) (hb.mono (by first | omega | (simp; done) | (simp; omega)))); have hsr14 := HS_1.out _ hbr14.out; have hch13_14 : Hid (Below w13.heap.size w13 w14) := hid (Below.trans (by go_grown) (hb.mono (by first | omega | (simp; done) | (simp; omega)))); have hch4_14 : Hid (Below w4.heap.size w4 w14) := hid (hch4_13.out.trans (hch13_14.out.mono hch4_13.out.size)); have hch5_14 : Hid (Below w5.heap.size w5 w14) := hid (hch5_13.out.trans (hch13_14.out.mono hch5_13.out.size)); have hch6_14 : Hid (Below w6.heap.size w6 w14) := hid (hch6_13.out.trans (hch13_14.out.mono hch6_13.out.size)); have hch7_14 : Hid (Below w7.heap.size w7 w14) := hid (hch7_13.out.trans (hch13_14.out.mono hch7_13.out.size)); have hch8_14 : Hid (Below w8.heap.size w8 w14) := hid (hch8_13.out.trans (hch13_14.out.mono hch8_13.out.size)); have hch9_14 : Hid (Below w9.heap.size w9 w14) := hid (hch9_13.out.trans (hch13_14.out.mono hch9_13.out.size)); have hch10_14 : Hid (Below w10.heap.size w10 w14) := hid (hch10_13.out.trans (hch13_14.out.mono hch10_13.out.size)); have hch11_14 : Hid (Below w11.heap.size w11 w14) := hid (hch11_13.out.trans (hch13_14.out.mono hch11_13.out.size)); have hch12_14 : Hid (Below w12.heap.size w12 w14) := hid (hch12_13.out.trans (hch13_14.out.mono hch12_13.out.size)); obtain ⟨Ar14, nr14, Br14, mr14, hv1, hv2⟩ := rda_shape hrd14; subst hv1; subst hv2; obtain ⟨Dr14, kr14, hv3⟩ := hsl14.shape; subst hv3; have HR14 := hid hrd14; have HL14 := hid hsl14; clear hrd14 hsl14; have HRx8 : Hid (∀ W, Below w14.heap.size w14 W → X2.rd W W.heap.size (.slice Ar14 X2.es.length nr14) (.slice Br14 X2.ks.length mr14)) := fun W hW => rda_rd HR14.out (fun b hb => hb.2) hW; have HLx8 : Hid (∀ W, Below w14.heap.size w14 W → SlP W W.heap.size 3 SpE (.slice Dr14 Y2.length kr14) Y2) := fun W hW => HL14.out.slp (fun b hb => hb.2) hW; clear hb))
      | (go_at_call 31; go_loud ((refine (csame_any Y5 Y5 X5 X5 _ _ _ _ _ _ _ (HRx5.out _ (hch10_12.out.trans (Below.mono (by go_grown) hch10_12.out.size))) (HRx7.out _ (by go_grown)) (HLx5.out _ (hch10_12.out.trans (Below.mono (by go_grown) hch10_12.out.size))) (HLx7.out _ (by go_grown)) (by omega) (by omega) (by omega) (by omega)).mono ?_); rw [E3.out]; rintro e w13 ⟨rfl, hb⟩; have hbr13 : Hid (Below (w.heap.size + 3) (((w.alloc (.cells #[.slice A0 a.es.length n0, .slice B0 a.ks.length m0, .slice D0 ac.length k0] 29)).alloc (.cells #[.slice A1 b.es.length n1, .slice B1 b.ks.length m1, .slice D1 bc.length k1] 29)).alloc (.cells #[.slice A2 c.es.length n2, .slice B2 c.ks.length m2, .slice D2 cc.length k2] 29)) w13) := hid (Below.trans (hbr12.out.trans (by go_grown)) (hb.mono (by first | omega | (simp; done) | (simp; omega)))); have hsr13 := HS_1.out _ hbr13.out; have hch12_13 : Hid (Below w12.heap.size w12 w13) := hid (Below.trans (by go_grown) (hb.mono (by first | omega | (simp; done) | (simp; omega)))); have hch4_13 : Hid (Below w4.heap.size w4 w13) := hid (hch4_12.out.trans (hch12_13.out.mono hch4_12.out.size)); have hch5_13 : Hid (Below w5.heap.size w5 w13) := hid (hch5_12.out.trans (hch12_13.out.mono hch5_12.out.size)); have hch6_13 : Hid (Below w6.heap.size w6 w13) := hid (hch6_12.out.trans (hch12_13.out.mono hch6_12.out.size)); have hch7_13 : Hid (Below w7.heap.size w7 w13) := hid (hch7_12.out.trans (hch12_13.out.mono hch7_12.out.size)); have hch8_13 : Hid (Below w8.heap.size w8 w13) := hid (hch8_12.out.trans (hch12_13.out.mono hch8_12.out.size)); have hch9_13 : Hid (Below w9.heap.size w9 w13) := hid (hch9_12.out.trans (hch12_13.out.mono hch9_12.out.size)); have hch10_13 : Hid (Below w10.heap.size w10 w13) := hid (hch10_12.out.trans (hch12_13.out.mono hch10_12.out.size)); have hch11_13 : Hid (Below w11.heap.size w11 w13) := hid (hch11_12.out.trans (hch12_13.out.mono hch11_12.out.size)); clear hb))
      | (go_at_call 35; go_loud ((refine (l09join_any ac Y6 a X6 _ _ _ _ _ _ _ (Hrt0_1.out _ (hbr11.out.trans (by go_grown))) (HRx6.out _ (by go_grown)) (Hrc0_1.out _ (hbr11.out.trans (by go_grown))) (HLx6.out _ (by go_grown)) (by omega) (by omega) (by omega) (by omega)).mono ?_); rw [J6.out, P6.out]; rintro e w12 ⟨xe12, xk12, xc12, rfl, hrd12, hsl12, hb⟩; have hbr12 : Hid (Below (w.heap.size + 3) (((w.alloc (.cells #[.slice A0 a.es.length n0, .slice B0 a.ks.length m0, .slice D0 ac.length k0] 29)).alloc (.cells #[.slice A1 b.es.length n1, .slice B1 b.ks.length m1, .slice D1 bc.length k1] 29)).alloc (.cells #[.slice A2 c.es.length n2, .slice B2 c.ks.length m2, .slice D2 cc.length k2] 29)) w12) := hid (Below.trans (hbr11.out.trans (by go_grown)) (hb.mono (by first | omega | (simp; done) | (simp; omega)))); have hsr12 := HS_1.out _ hbr12.out; have hch11_12 : Hid (Below w11.heap.size w11 w12) := hid (Below.trans (by go_grown) (hb.mono (by first | omega | (simp; done) | (simp; omega)))); have hch4_12 : Hid (Below w4.heap.size w4 w12) := hid (hch4_11.out.trans (hch11_12.out.mono hch4_11.out.size)); have hch5_12 : Hid (Below w5.heap.size w5 w12) := hid (hch5_11.out.trans (hch11_12.out.mono hch5_11.out.size)); have hch6_12 : Hid (Below w6.heap.size w6 w12) := hid (hch6_11.out.trans (hch11_12.out.mono hch6_11.out.size)); have hch7_12 : Hid (Below w7.heap.size w7 w12) := hid (hch7_11.out.trans (hch11_12.out.mono hch7_11.out.size)); have hch8_12 : Hid (Below w8.heap.size w8 w12) := hid (hch8_11.out.trans (hch11_12.out.mono hch8_11.out.size)); have hch9_12 : Hid (Below w9.heap.size w9 w12) := hid (hch9_11.out.trans (hch11_12.out.mono hch9_11.out.size)); have hch10_12 : Hid (Below w10.heap.size w10 w12) := hid (hch10_11.out.trans (hch11_12.out.mono hch10_11.out.size)); obtain ⟨Ar12, nr12, Br12, mr12, hv1, hv2⟩ := rda_shape hrd12; subst hv1; subst hv2; obtain ⟨Dr12, kr12, hv3⟩ := hsl12.shape; subst hv3; have HR12 := hid hrd12; have HL12 := hid hsl12; clear hrd12 hsl12; have HRx7 : Hid (∀ W, Below w12.heap.size w12 W → X5.rd W W.heap.size (.slice Ar12 X5.es.length nr12) (.slice Br12 X5.ks.length mr12)) := fun W hW => rda_rd HR12.out (fun b hb => hb.2) hW; have HLx7 : Hid (∀ W, Below w12.heap.size w12 W → SlP W W.heap.size 3 SpE (.slice Dr12 Y5.length kr12) Y5) := fun W hW => HL12.out.slp (fun b hb => hb.2) hW; clear hb))
      | (go_at_call 35; go_loud ((refine (l09join_any bc cc b c _ _ _ _ _ _ _ (Hrt1_1.out _ (hbr10.out.trans (by go_grown))) (Hrt2_1.out _ (hbr10.out.trans (by go_grown))) (Hrc1_1.out _ (hbr10.out.trans (by go_grown))) (Hrc2_1.out _ (hbr10.out.trans (by go_grown))) (by omega) (by omega) (by omega) (by omega)).mono ?_); rw [J5.out, P5.out]; rintro e w11 ⟨xe11, xk11, xc11, rfl, hrd11, hsl11, hb⟩; have hbr11 : Hid (Below (w.heap.size + 3) (((w.alloc (.cells #[.slice A0 a.es.length n0, .slice B0 a.ks.length m0, .slice D0 ac.length k0] 29)).alloc (.cells #[.slice A1 b.es.length n1, .slice B1 b.ks.length m1, .slice D1 bc.length k1] 29)).alloc (.cells #[.slice A2 c.es.length n2, .slice B2 c.ks.length m2, .slice D2 cc.length k2] 29)) w11) := hid (Below.trans (hbr10.out.trans (by go_grown)) (hb.mono (by first | omega | (simp; done) | (simp; omega)))); have hsr11 := HS_1.out _ hbr11.out; have hch10_11 : Hid (Below w10.heap.size w10 w11) := hid (Below.trans (by go_grown) (hb.mono (by first | omega | (simp; done) | (simp; omega)))); have hch4_11 : Hid (Below w4.heap.size w4 w11) := hid (hch4_10.out.trans (hch10_11.out.mono hch4_10.out.size)); have hch5_11 : Hid (Below w5.heap.size w5 w11) := hid (hch5_10.out.trans (hch10_11.out.mono hch5_10.out.size)); have hch6_11 : Hid (Below w6.heap.size w6 w11) := hid (hch6_10.out.trans (hch10_11.out.mono hch6_10.out.size)); have hch7_11 : Hid (Below w7.heap.size w7 w11) := hid (hch7_10.out.trans (hch10_11.out.mono hch7_10.out.size)); have hch8_11 : Hid (Below w8.heap.size w8 w11) := hid (hch8_10.out.trans (hch10_11.out.mono hch8_10.out.size)); have hch9_11 : Hid (Below w9.heap.size w9 w11) := hid (hch9_10.out.trans (hch10_11.out.mono hch9_10.out.size)); obtain ⟨Ar11, nr11, Br11, mr11, hv1, hv2⟩ := rda_shape hrd11; subst hv1; subst hv2; obtain ⟨Dr11, kr11, hv3⟩ := hsl11.shape; subst hv3; have HR11 := hid hrd11; have HL11 := hid hsl11; clear hrd11 hsl11; have HRx6 : Hid (∀ W, Below w11.heap.size w11 W → X6.rd W W.heap.size (.slice Ar11 X6.es.length nr11) (.slice Br11 X6.ks.length mr11)) := fun W hW => rda_rd HR11.out (fun b hb => hb.2) hW; have HLx6 : Hid (∀ W, Below w11.heap.size w11 W → SlP W W.heap.size 3 SpE (.slice Dr11 Y6.length kr11) Y6) := fun W hW => HL11.out.slp (fun b hb => hb.2) hW; clear hb))
      | (go_at_call 35; go_loud ((refine (l09join_any Y2 cc X2 c _ _ _ _ _ _ _ (HRx4.out _ (by go_grown)) (Hrt2_1.out _ (hbr9.out.trans (by go_grown))) (HLx4.out _ (by go_grown)) (Hrc2_1.out _ (hbr9.out.trans (by go_grown))) (by omega) (by omega) (by omega) (by omega)).mono ?_); rw [J4.out, P4.out]; rintro e w10 ⟨xe10, xk10, xc10, rfl, hrd10, hsl10, hb⟩; have hbr10 : Hid (Below (w.heap.size + 3) (((w.alloc (.cells #[.slice A0 a.es.length n0, .slice B0 a.ks.length m0, .slice D0 ac.length k0] 29)).alloc (.cells #[.slice A1 b.es.length n1, .slice B1 b.ks.length m1, .slice D1 bc.length k1] 29)).alloc (.cells #[.slice A2 c.es.length n2, .slice B2 c.ks.length m2, .slice D2 cc.length k2] 29)) w10) := hid (Below.trans (hbr9.out.trans (by go_grown)) (hb.mono (by first | omega | (simp; done) | (simp; omega)))); have hsr10 := HS_1.out _ hbr10.out; have hch9_10 : Hid (Below w9.heap.size w9 w10) := hid (Below.trans (by go_grown) (hb.mono (by first | omega | (simp; done) | (simp; omega)))); have hch4_10 : Hid (Below w4.heap.size w4 w10) := hid (hch4_9.out.trans (hch9_10.out.mono hch4_9.out.size)); have hch5_10 : Hid (Below w5.heap.size w5 w10) := hid (hch5_9.out.trans (hch9_10.out.mono hch5_9.out.size)); have hch6_10 : Hid (Below w6.heap.size w6 w10) := hid (hch6_9.out.trans (hch9_10.out.mono hch6_9.out.size)); have hch7_10 : Hid (Below w7.heap.size w7 w10) := hid (hch7_9.out.trans (hch9_10.out.mono hch7_9.out.size)); have hch8_10 : Hid (Below w8.heap.size w8 w10) := hid (hch8_9.out.trans (hch9_10.out.mono hch8_9.out.size)); obtain ⟨Ar10, nr10, Br10, mr10, hv1, hv2⟩ := rda_shape hrd10; subst hv1; subst hv2; obtain ⟨Dr10, kr10, hv3⟩ := hsl10.shape; subst hv3; have HR10 := hid hrd10; have HL10 := hid hsl10; clear hrd10 hsl10; have HRx5 : Hid (∀ W, Below w10.heap.size w10 W → X5.rd W W.heap.size (.slice Ar10 X5.es.length nr10) (.slice Br10 X5.ks.length mr10)) := fun W hW => rda_rd HR10.out (fun b hb => hb.2) hW; have HLx5 : Hid (∀ W, Below w10.heap.size w10 W → SlP W W.heap.size 3 SpE (.slice Dr10 Y5.length kr10) Y5) := fun W hW => HL10.out.slp (fun b hb => hb.2) hW; clear hb))
      | (go_at_call 35; go_loud ((refine (l09join_any ac bc a b _ _ _ _ _ _ _ (Hrt0_1.out _ (hbr8.out.trans (by go_grown))) (Hrt1_1.out _ (hbr8.out.trans (by go_grown))) (Hrc0_1.out _ (hbr8.out.trans (by go_grown))) (Hrc1_1.out _ (hbr8.out.trans (by go_grown))) (by omega) (by omega) (by omega) (by omega)).mono ?_); rw [J2.out, P2.out]; rintro e w9 ⟨xe9, xk9, xc9, rfl, hrd9, hsl9, hb⟩; have hbr9 : Hid (Below (w.heap.size + 3) (((w.alloc (.cells #[.slice A0 a.es.length n0, .slice B0 a.ks.length m0, .slice D0 ac.length k0] 29)).alloc (.cells #[.slice A1 b.es.length n1, .slice B1 b.ks.length m1, .slice D1 bc.length k1] 29)).alloc (.cells #[.slice A2 c.es.length n2, .slice B2 c.ks.length m2, .slice D2 cc.length k2] 29)) w9) := hid (Below.trans (hbr8.out.trans (by go_grown)) (hb.mono (by first | omega | (simp; done) | (simp; omega)))); have hsr9 := HS_1.out _ hbr9.out; have hch8_9 : Hid (Below w8.heap.size w8 w9) := hid (Below.trans (by go_grown) (hb.mono (by first | omega | (simp; done) | (simp; omega)))); have hch4_9 : Hid (Below w4.heap.size w4 w9) := hid (hch4_8.out.trans (hch8_9.out.mono hch4_8.out.size)); have hch5_9 : Hid (Below w5.heap.size w5 w9) := hid (hch5_8.out.trans (hch8_9.out.mono hch5_8.out.size)); have hch6_9 : Hid (Below w6.heap.size w6 w9) := hid (hch6_8.out.trans (hch8_9.out.mono hch6_8.out.size)); have hch7_9 : Hid (Below w7.heap.size w7 w9) := hid (hch7_8.out.trans (hch8_9.out.mono hch7_8.out.size)); obtain ⟨Ar9, nr9, Br9, mr9, hv1, hv2⟩ := rda_shape hrd9; subst hv1; subst hv2; obtain ⟨Dr9, kr9, hv3⟩ := hsl9.shape; subst hv3; have HR9 := hid hrd9; have HL9 := hid hsl9; clear hrd9 hsl9; have HRx4 : Hid (∀ W, Below w9.heap.size w9 W → X2.rd W W.heap.size (.slice Ar9 X2.es.length nr9) (.slice Br9 X2.ks.length mr9)) := fun W hW => rda_rd HR9.out (fun b hb => hb.2) hW; have HLx4 : Hid (∀ W, Below w9.heap.size w9 W → SlP W W.heap.size 3 SpE (.slice Dr9 Y2.length kr9) Y2) := fun W hW => HL9.out.slp (fun b hb => hb.2) hW; clear hb))
      | (go_at_call 31; go_loud ((refine (csame_any Y2 Y2 X2 X2 _ _ _ _ _ _ _ (HRx2.out _ (hch6_7.out.trans (Below.mono (by go_grown) hch6_7.out.size))) (HRx3.out _ (by go_grown)) (HLx2.out _ (hch6_7.out.trans (Below.mono (by go_grown) hch6_7.out.size))) (HLx3.out _ (by go_grown)) (by omega) (by omega) (by omega) (by omega)).mono ?_); rw [E2.out]; rintro e w8 ⟨rfl, hb⟩; have hbr8 : Hid (Below (w.heap.size + 3) (((w.alloc (.cells #[.slice A0 a.es.length n0, .slice B0 a.ks.length m0, .slice D0 ac.length k0] 29)).alloc (.cells #[.slice A1 b.es.length n1, .slice B1 b.ks.length m1, .slice D1 bc.length k1] 29)).alloc (.cells #[.slice A2 c.es.length n2, .slice B2 c.ks.length m2, .slice D2 cc.length k2] 29)) w8) := hid (Below.trans (hbr7.out.trans (by go_grown)) (hb.mono (by first | omega | (simp; done) | (simp; omega)))); have hsr8 := HS_1.out _ hbr8.out; have hch7_8 : Hid (Below w7.heap.size w7 w8) := hid (Below.trans (by go_grown) (hb.mono (by first | omega | (simp; done) | (simp; omega)))); have hch4_8 : Hid (Below w4.heap.size w4 w8) := hid (hch4_7.out.trans (hch7_8.out.mono hch4_7.out.size)); have hch5_8 : Hid (Below w5.heap.size w5 w8) := hid (hch5_7.out.trans (hch7_8.out.mono hch5_7.out.size)); have hch6_8 : Hid (Below w6.heap.size w6 w8) := hid (hch6_7.out.trans (hch7_8.out.mono hch6_7.out.size)); clear hb))
      | (go_at_call 35; go_loud ((refine (l09join_any bc ac b a _ _ _ _ _ _ _ (Hrt1_1.out _ (hbr6.out.trans (by go_grown))) (Hrt0_1.out _ (hbr6.out.trans (by go_grown))) (Hrc1_1.out _ (hbr6.out.trans (by go_grown))) (Hrc0_1.out _ (hbr6.out.trans (by go_grown))) (by omega) (by omega) (by omega) (by omega)).mono ?_); rw [J3.out, P3.out]; rintro e w7 ⟨xe7, xk7, xc7, rfl, hrd7, hsl7, hb⟩; have hbr7 : Hid (Below (w.heap.size + 3) (((w.alloc (.cells #[.slice A0 a.es.length n0, .slice B0 a.ks.length m0, .slice D0 ac.length k0] 29)).alloc (.cells #[.slice A1 b.es.length n1, .slice B1 b.ks.length m1, .slice D1 bc.length k1] 29)).alloc (.cells #[.slice A2 c.es.length n2, .slice B2 c.ks.length m2, .slice D2 cc.length k2] 29)) w7) := hid (Below.trans (hbr6.out.trans (by go_grown)) (hb.mono (by first | omega | (simp; done) | (simp; omega)))); have hsr7 := HS_1.out _ hbr7.out; have hch6_7 : Hid (Below w6.heap.size w6 w7) := hid (Below.trans (by go_grown) (hb.mono (by first | omega | (simp; done) | (simp; omega)))); have hch4_7 : Hid (Below w4.heap.size w4 w7) := hid (hch4_6.out.trans (hch6_7.out.mono hch4_6.out.size)); have hch5_7 : Hid (Below w5.heap.size w5 w7) := hid (hch5_6.out.trans (hch6_7.out.mono hch5_6.out.size)); obtain ⟨Ar7, nr7, Br7, mr7, hv1, hv2⟩ := rda_shape hrd7; subst hv1; subst hv2; obtain ⟨Dr7, kr7, hv3⟩ := hsl7.shape; subst hv3; have HR7 := hid hrd7; have HL7 := hid hsl7; clear hrd7 hsl7; have HRx3 : Hid (∀ W, Below w7.heap.size w7 W → X2.rd W W.heap.size (.slice Ar7 X2.es.length nr7) (.slice Br7 X2.ks.length mr7)) := fun W hW => rda_rd HR7.out (fun b hb => hb.2) hW; have HLx3 : Hid (∀ W, Below w7.heap.size w7 W → SlP W W.heap.size 3 SpE (.slice Dr7 Y2.length kr7) Y2) := fun W hW => HL7.out.slp (fun b hb => hb.2) hW; clear hb))
      | (go_at_call 35; go_loud ((refine (l09join_any ac bc a b _ _ _ _ _ _ _ (Hrt0_1.out _ (hbr5.out.trans (by go_grown))) (Hrt1_1.out _ (hbr5.out.trans (by go_grown))) (Hrc0_1.out _ (hbr5.out.trans (by go_grown))) (Hrc1_1.out _ (hbr5.out.trans (by go_grown))) (by omega) (by omega) (by omega) (by omega)).mono ?_); rw [J2.out, P2.out]; rintro e w6 ⟨xe6, xk6, xc6, rfl, hrd6, hsl6, hb⟩; have hbr6 : Hid (Below (w.heap.size + 3) (((w.alloc (.cells #[.slice A0 a.es.length n0, .slice B0 a.ks.length m0, .slice D0 ac.length k0] 29)).alloc (.cells #[.slice A1 b.es.length n1, .slice B1 b.ks.length m1, .slice D1 bc.length k1] 29)).alloc (.cells #[.slice A2 c.es.length n2, .slice B2 c.ks.length m2, .slice D2 cc.length k2] 29)) w6) := hid (Below.trans (hbr5.out.trans (by go_grown)) (hb.mono (by first | omega | (simp; done) | (simp; omega)))); have hsr6 := HS_1.out _ hbr6.out; have hch5_6 : Hid (Below w5.heap.size w5 w6) := hid (Below.trans (by go_grown) (hb.mono (by first | omega | (simp; done) | (simp; omega)))); have hch4_6 : Hid (Below w4.heap.size w4 w6) := hid (hch4_5.out.trans (hch5_6.out.mono hch4_5.out.size)); obtain ⟨Ar6, nr6, Br6, mr6, hv1, hv2⟩ := rda_shape hrd6; subst hv1; subst hv2; obtain ⟨Dr6, kr6, hv3⟩ := hsl6.shape; subst hv3; have HR6 := hid hrd6; have HL6 := hid hsl6; clear hrd6 hsl6; have HRx2 : Hid (∀ W, Below w6.heap.size w6 W → X2.rd W W.heap.size (.slice Ar6 X2.es.length nr6) (.slice Br6 X2.ks.length mr6)) := fun W hW => rda_rd HR6.out (fun b hb => hb.2) hW; have HLx2 : Hid (∀ W, Below w6.heap.size w6 W → SlP W W.heap.size 3 SpE (.slice Dr6 Y2.length kr6) Y2) := fun W hW => HL6.out.slp (fun b hb => hb.2) hW; clear hb))
      | (go_at_call 31; go_loud ((refine (csame_any Y1 ac X1 a _ _ _ _ _ _ _ (HRx1.out _ (by go_grown)) (Hrt0_1.out _ (hbr4.out.trans (by go_grown))) (HLx1.out _ (by go_grown)) (Hrc0_1.out _ (hbr4.out.trans (by go_grown))) (by omega) (by omega) (by omega) (by omega)).mono ?_); rw [E1.out]; rintro e w5 ⟨rfl, hb⟩; have hbr5 : Hid (Below (w.heap.size + 3) (((w.alloc (.cells #[.slice A0 a.es.length n0, .slice B0 a.ks.length m0, .slice D0 ac.length k0] 29)).alloc (.cells #[.slice A1 b.es.length n1, .slice B1 b.ks.length m1, .slice D1 bc.length k1] 29)).alloc (.cells #[.slice A2 c.es.length n2, .slice B2 c.ks.length m2, .slice D2 cc.length k2] 29)) w5) := hid (Below.trans (hbr4.out.trans (by go_grown)) (hb.mono (by first | omega | (simp; done) | (simp; omega)))); have hsr5 := HS_1.out _ hbr5.out; have hch4_5 : Hid (Below w4.heap.size w4 w5) := hid (Below.trans (by go_grown) (hb.mono (by first | omega | (simp; done) | (simp; omega)))); clear hb))
      | (go_at_call 35; go_loud ((refine (l09join_any ac ac a a _ _ _ _ _ _ _ (Hrt0_1.out _ (hbk3.out.trans (by go_grown))) (Hrt0_1.out _ (hbk3.out.trans (by go_grown))) (Hrc0_1.out _ (hbk3.out.trans (by go_grown))) (Hrc0_1.out _ (hbk3.out.trans (by go_grown))) (by omega) (by omega) (by omega) (by omega)).mono ?_); rw [J1.out, P1.out]; rintro e w4 ⟨xe4, xk4, xc4, rfl, hrd4, hsl4, hb⟩; have hbr4 : Hid (Below (w.heap.size + 3) (((w.alloc (.cells #[.slice A0 a.es.length n0, .slice B0 a.ks.length m0, .slice D0 ac.length k0] 29)).alloc (.cells #[.slice A1 b.es.length n1, .slice B1 b.ks.length m1, .slice D1 bc.length k1] 29)).alloc (.cells #[.slice A2 c.es.length n2, .slice B2 c.ks.length m2, .slice D2 cc.length k2] 29)) w4) := hid (Below.trans (hbk3.out.trans (by go_grown)) (hb.mono (by first | omega | (simp; done) | (simp; omega)))); have hsr4 := HS_1.out _ hbr4.out; obtain ⟨Ar4, nr4, Br4, mr4, hv1, hv2⟩ := rda_shape hrd4; subst hv1; subst hv2; obtain ⟨Dr4, kr4, hv3⟩ := hsl4.shape; subst hv3; have HR4 := hid hrd4; have HL4 := hid hsl4; clear hrd4 hsl4; have HRx1 : Hid (∀ W, Below w4.heap.size w4 W → X1.rd W W.heap.size (.slice Ar4 X1.es.length nr4) (.slice Br4 X1.ks.length mr4)) := fun W hW => rda_rd HR4.out (fun b hb => hb.2) hW; have HLx1 : Hid (∀ W, Below w4.heap.size w4 W → SlP W W.heap.size 3 SpE (.slice Dr4 Y1.length kr4) Y1) := fun W hW => HL4.out.slp (fun b hb => hb.2) hW; clear hb)))
  all_goals (
    go_wp2_with fail
    go_ret
    exact ⟨rfl, (HX0.out _ hbr15.out).1⟩)
end Go.Proofs.YtkjijbogbelilaaGreat

namespace Go.Proofs.YtkjijbogbelilaaGreat
open Go.ChangeShapes Go.WideShapes Go.ChangeAt Go.RowKit
set_option maxRecDepth 100000

theorem okString : Tryz.prog.readableRec 9 = true ∧ 9 < Tryz.prog.types.size := ⟨by kernel_rfl, of_decide_eq_true (by kernel_rfl)⟩
theorem str_arg {H : Type} {enc : TypeId × Value → H} {W : World} {base : Nat} {v : Value} {d : DataW H} {p : List MemPlace} (hv : Value.okWide Tryz.prog W .any base 9 v) (h : DataW.Trod enc Tryz.prog W 0 (fun _ => true) true 9 v d p) (hw : Wt Tryz.prog 9 d) :
    ∃ s : ByteArray, v = .string s ∧ s.size ≤ Big := by
  obtain ⟨s, rfl⟩ := okWide_string Tryz.underlying9 hv
  obtain ⟨fuel, hf⟩ := h
  obtain ⟨s', e, hy, _⟩ := DataW.trod_string Tryz.underlying9 hf
  simp [Value.cells] at e
  subst e
  refine ⟨_, rfl, ?_⟩
  have := hw s.size (by rw [(Prod.mk.inj hy).1]; simp [DataW.weights])
  unfold reachBytes at this; unfold Big; omega
end Go.Proofs.YtkjijbogbelilaaGreat

namespace Go.Proofs.YtkjijbogbelilaaGreat
open Go.ChangeShapes Go.WideShapes Go.ChangeAt Go.RowKit
set_option maxRecDepth 100000

theorem okCausal : Tryz.prog.readableRec 29 = true ∧ 29 < Tryz.prog.types.size := ⟨by kernel_rfl, of_decide_eq_true (by kernel_rfl)⟩
theorem cellsSpan : Tryz.prog.cellsOf 55 = 3 := by kernel_rfl
theorem cellsCtx : Tryz.prog.cellsOf 27 = 1 := by kernel_rfl
theorem cellsCausal : Tryz.prog.cellsOf 29 = 3 := by kernel_rfl
theorem bytesSpan : Tryz.prog.bytesOf 55 = 24 := by kernel_rfl
section
variable {H : Type} {enc : TypeId × Value → H} {w : World}
theorem span_open {fuel : Nat} {cs : List Value} {x : DataW H × List MemPlace} (h : DataW.trod enc Tryz.prog w 0 (fun _ => true) true fuel 55 cs = some x) : ∃ d : Sp, SpE d cs := by
  obtain ⟨xs, n, rfl, rfl, hl, hx, hf⟩ := DataW.trod_struct Tryz.underlying55 h
  rw [cellsSpan] at hl
  match cs, hl with
  | [c0, c1, c2], _ =>
    match xs, hx with
    | [y0, y1, y2], _ =>
      have f0 : DataW.trod enc Tryz.prog w 0 (fun _ => true) true n 3 (([c0, c1, c2].drop 0).take (Tryz.prog.cellsOf 3)) = some y0 := hf 0 _ rfl
      rw [cellsOne.2.1] at f0
      have f1 : DataW.trod enc Tryz.prog w 0 (fun _ => true) true n 2 (([c0, c1, c2].drop 1).take (Tryz.prog.cellsOf 2)) = some y1 := hf 1 _ rfl
      rw [cellsOne.2.2.1] at f1
      have f2 : DataW.trod enc Tryz.prog w 0 (fun _ => true) true n 2 (([c0, c1, c2].drop 2).take (Tryz.prog.cellsOf 2)) = some y2 := hf 2 _ rfl
      rw [cellsOne.2.2.1] at f2
      obtain ⟨a, e0, _, w0⟩ := DataW.trod_int Tryz.underlying3 (show DataW.trod enc Tryz.prog w 0 (fun _ => true) true n 3 [c0] = some y0 from f0)
      obtain ⟨b, e1, _, w1⟩ := DataW.trod_int Tryz.underlying2 (show DataW.trod enc Tryz.prog w 0 (fun _ => true) true n 2 [c1] = some y1 from f1)
      obtain ⟨c, e2, _, w2⟩ := DataW.trod_int Tryz.underlying2 (show DataW.trod enc Tryz.prog w 0 (fun _ => true) true n 2 [c2] = some y2 from f2)
      simp at e0 e1 e2
      subst e0; subst e1; subst e2
      exact ⟨⟨a, b, c⟩, rfl, wf_i64 w0, wf_i64 w1, wf_i64 w2⟩
theorem ca_open {fuel : Nat} {cs : List Value} {x : DataW H × List MemPlace} (h : DataW.trod enc Tryz.prog w 0 (fun _ => true) true fuel 29 cs = some x) (hw : Wt Tryz.prog 29 x.1) :
    ∃ t c ve vk vc, cs = [ve, vk, vc] ∧ Tr.rd w w.heap.size t ve vk ∧ SlP w w.heap.size 3 SpE vc c := by
  obtain ⟨xs, n, rfl, rfl, hl, hx, hf⟩ := DataW.trod_struct Tryz.underlying29 h
  rw [cellsCausal] at hl
  match cs, hl with
  | [c0, c1, c2], _ =>
    match xs, hx with
    | [y0, y1], _ =>
      have f0 : DataW.trod enc Tryz.prog w 0 (fun _ => true) true n 25 (([c0, c1, c2].drop 0).take (Tryz.prog.cellsOf 25)) = some y0 := hf 0 _ rfl
      rw [cellsTree] at f0
      have f1 : DataW.trod enc Tryz.prog w 0 (fun _ => true) true n 27 (([c0, c1, c2].drop 2).take (Tryz.prog.cellsOf 27)) = some y1 := hf 1 _ rfl
      rw [cellsCtx] at f1
      obtain ⟨t, ve, vk, e, ht⟩ := tree_open n _ _ (show DataW.trod enc Tryz.prog w 0 (fun _ => true) true n 25 [c0, c1] = some y0 from f0) (Wt.field Tryz.underlying29 hw (i := 0) rfl rfl)
      obtain ⟨v1, c, e1, h1⟩ := slc_open (E := SpE) Tryz.underlying27 cellsSpan (by decide) bytesSpan (by decide) (show DataW.trod enc Tryz.prog w 0 (fun _ => true) true n 27 [c2] = some y1 from f1) (Wt.field Tryz.underlying29 hw (i := 1) rfl rfl)
        (fun m cs y _ hy hwy => span_open hy)
      simp at e e1
      obtain ⟨rfl, rfl⟩ := e
      subst e1
      exact ⟨t, c, c0, c1, c2, rfl, ht, h1⟩
end
theorem ca_arg {H : Type} {enc : TypeId × Value → H} {W : World} {base : Nat} {v : Value} {d : DataW H} {p : List MemPlace} (hv : Value.okWide Tryz.prog W .any base 29 v) (h : DataW.Trod enc Tryz.prog W 0 (fun _ => true) true 29 v d p) (hw : Wt Tryz.prog 29 d) :
    ∃ t c ve vk vc, v = .agg #[ve, vk, vc] ∧ Tr.rd W W.heap.size t ve vk ∧ SlP W W.heap.size 3 SpE vc c := by
  obtain ⟨cs, rfl, hs⟩ := okWide_struct Tryz.underlying29 hv
  obtain ⟨fuel, hf⟩ := h
  obtain ⟨t, c, ve, vk, vc, e, ht, hc⟩ := ca_open hf hw
  refine ⟨t, c, ve, vk, vc, ?_, ht, hc⟩
  simp [Value.cells] at e
  obtain ⟨l⟩ := cs
  simp at e
  rw [e]
end Go.Proofs.YtkjijbogbelilaaGreat

namespace Go.Proofs.YtkjijbogbelilaaGreat
open Go.RowKit
set_option maxRecDepth 100000

theorem least_le {x y z : Kn} (hx : KOk x) (hy : KOk y) (hz : KOk z) : jn (jn x y) z = z ↔ jn x z = z ∧ jn y z = z := by
  constructor
  · intro h
    constructor
    · calc jn x z = jn x (jn (jn x y) z) := by rw [h]
        _ = jn (jn x (jn x y)) z := (jn_assoc hx (jn_okK hx hy) hz).symm
        _ = jn (jn (jn x x) y) z := by rw [jn_assoc hx hx hy]
        _ = z := by rw [jn_idem hx, h]
    · calc jn y z = jn y (jn (jn x y) z) := by rw [h]
        _ = jn (jn y (jn x y)) z := (jn_assoc hy (jn_okK hx hy) hz).symm
        _ = jn (jn y (jn y x)) z := by rw [jn_comm hx hy]
        _ = jn (jn (jn y y) x) z := by rw [jn_assoc hy hy hx]
        _ = z := by rw [jn_idem hy, jn_comm hy hx, h]
  · rintro ⟨h1, h2⟩
    rw [jn_assoc hx hy hz, h2, h1]
theorem bool_iff {a : Bool} {p : Prop} (h : a = true ↔ p) {b : Bool} (k : b = true ↔ p) : a = b := by
  rw [Bool.eq_iff_iff, h, k]
theorem least_plain {a b c : Tr} {ac bc cc : List Sp} (h : KOk (a, ac) ∧ KOk (b, bc) ∧ KOk (c, cc)) (z1 : a.sz ≤ 40) (z2 : ac.length ≤ 40) (z3 : b.sz ≤ 40) (z4 : bc.length ≤ 40) :
    ∃ (U : Tr) (UC : List Sp) (P Q : Bool), Hid (jnT a b ac bc = U) ∧ Hid (jnC a b ac bc = UC) ∧ Hid (kLeq a U ac UC = true) ∧ Hid (kLeq b U bc UC = true) ∧ Hid (kLeq U c UC cc = (P && Q)) ∧ Hid (kLeq a c ac cc = P) ∧ Hid (kLeq b c bc cc = Q) ∧ U.sz ≤ 80 ∧ UC.length ≤ 80 := by
  obtain ⟨ha, hb, hc⟩ := h
  have hab := jn_okK ha hb
  have e2 := jnK_eq ha hb
  have s2 := jn_sz ha hb
  simp only at s2
  have l1 : jn (a, ac) (jn (a, ac) (b, bc)) = jn (a, ac) (b, bc) := by rw [← jn_assoc ha ha hb, jn_idem ha]
  have l2 : jn (b, bc) (jn (a, ac) (b, bc)) = jn (a, ac) (b, bc) := by rw [jn_comm ha hb, ← jn_assoc hb hb ha, jn_idem hb]
  refine ⟨(jn (a, ac) (b, bc)).1, (jn (a, ac) (b, bc)).2, _, _, e2.1, e2.2, (kLeq_ok ha hab).2 l1, (kLeq_ok hb hab).2 l2, ?_, rfl, rfl, by omega, by omega⟩
  refine bool_iff ((kLeq_ok hab hc).trans (least_le ha hb hc)) ?_
  rw [Bool.and_eq_true]
  exact and_congr (kLeq_ok ha hc) (kLeq_ok hb hc)
set_option maxHeartbeats 4000000 in
theorem lawCT_any (a : Tr) (ac : List Sp) (b : Tr) (bc : List Sp) (c : Tr) (cc : List Sp) (w : World) (ve0 vk0 vc0 ve1 vk1 vc1 ve2 vk2 vc2 : Value) (h0 : a.rd w w.heap.size ve0 vk0) (hc0 : SlP w w.heap.size 3 SpE vc0 ac) (h1 : b.rd w w.heap.size ve1 vk1) (hc1 : SlP w w.heap.size 3 SpE vc1 bc) (h2 : c.rd w w.heap.size ve2 vk2) (hc2 : SlP w w.heap.size 3 SpE vc2 cc) :
    Calls Tryz.prog 8 #[.agg #[ve0, vk0, vc0], .agg #[ve1, vk1, vc1], .agg #[ve2, vk2, vc2]] w fun e w' => e = .returned (.bool true) ∧ Below w.heap.size w w' := by
  have HC0 : Hid (∀ w', Below w.heap.size w w' → a.rd w' w'.heap.size ve0 vk0) := fun w' hb => rd_below hb hb.size _ _ _ h0
  have HD0 : Hid (∀ w', Below w.heap.size w w' → SlP w' w'.heap.size 3 SpE vc0 ac) := fun w' hb => hc0.imp hb hb.size fun _ _ _ h => h
  obtain ⟨A0, n0, B0, m0, rfl, rfl⟩ := rd_shape h0
  obtain ⟨D0, k0, rfl, _⟩ := hc0
  clear h0
  have HC1 : Hid (∀ w', Below w.heap.size w w' → b.rd w' w'.heap.size ve1 vk1) := fun w' hb => rd_below hb hb.size _ _ _ h1
  have HD1 : Hid (∀ w', Below w.heap.size w w' → SlP w' w'.heap.size 3 SpE vc1 bc) := fun w' hb => hc1.imp hb hb.size fun _ _ _ h => h
  obtain ⟨A1, n1, B1, m1, rfl, rfl⟩ := rd_shape h1
  obtain ⟨D1, k1, rfl, _⟩ := hc1
  clear h1
  have HC2 : Hid (∀ w', Below w.heap.size w w' → c.rd w' w'.heap.size ve2 vk2) := fun w' hb => rd_below hb hb.size _ _ _ h2
  have HD2 : Hid (∀ w', Below w.heap.size w w' → SlP w' w'.heap.size 3 SpE vc2 cc) := fun w' hb => hc2.imp hb hb.size fun _ _ _ h => h
  obtain ⟨A2, n2, B2, m2, rfl, rfl⟩ := rd_shape h2
  obtain ⟨D2, k2, rfl, _⟩ := hc2
  clear h2
  have HX0 : Hid (∀ W, Below (w.heap.size + 3) (((w.alloc (.cells #[.slice A0 a.es.length n0, .slice B0 a.ks.length m0, .slice D0 ac.length k0] 29)).alloc (.cells #[.slice A1 b.es.length n1, .slice B1 b.ks.length m1, .slice D1 bc.length k1] 29)).alloc (.cells #[.slice A2 c.es.length n2, .slice B2 c.ks.length m2, .slice D2 cc.length k2] 29)) W → (Below w.heap.size w W ∧ w.heap.size + 3 ≤ (W).heap.size ∧ a.rd W (W).heap.size (.slice A0 a.es.length n0) (.slice B0 a.ks.length m0) ∧ SlP W (W).heap.size 3 SpE (.slice D0 ac.length k0) ac ∧ b.rd W (W).heap.size (.slice A1 b.es.length n1) (.slice B1 b.ks.length m1) ∧ SlP W (W).heap.size 3 SpE (.slice D1 bc.length k1) bc ∧ c.rd W (W).heap.size (.slice A2 c.es.length n2) (.slice B2 c.ks.length m2) ∧ SlP W (W).heap.size 3 SpE (.slice D2 cc.length k2) cc ∧ (W).cell? ⟨w.heap.size, 0, none⟩ = some (.slice A0 a.es.length n0) ∧ (W).cell? ⟨w.heap.size, 1, none⟩ = some (.slice B0 a.ks.length m0) ∧ (W).cell? ⟨w.heap.size, 2, none⟩ = some (.slice D0 ac.length k0) ∧ (W).cell? ⟨(w.heap.size + 1), 0, none⟩ = some (.slice A1 b.es.length n1) ∧ (W).cell? ⟨(w.heap.size + 1), 1, none⟩ = some (.slice B1 b.ks.length m1) ∧ (W).cell? ⟨(w.heap.size + 1), 2, none⟩ = some (.slice D1 bc.length k1) ∧ (W).cell? ⟨(w.heap.size + 2), 0, none⟩ = some (.slice A2 c.es.length n2) ∧ (W).cell? ⟨(w.heap.size + 2), 1, none⟩ = some (.slice B2 c.ks.length m2) ∧ (W).cell? ⟨(w.heap.size + 2), 2, none⟩ = some (.slice D2 cc.length k2))) := fun W hW => by
    have g0 : W.heap[w.heap.size]? = some (.cells #[.slice A0 a.es.length n0, .slice B0 a.ks.length m0, .slice D0 ac.length k0] 29 (0, 0)) := (hW.block _ (by omega)).trans ((heap_old (by simp <;> omega)).trans ((heap_old (by simp <;> omega)).trans (heap_new rfl)))
    have g1 : W.heap[(w.heap.size + 1)]? = some (.cells #[.slice A1 b.es.length n1, .slice B1 b.ks.length m1, .slice D1 bc.length k1] 29 (0, 0)) := (hW.block _ (by omega)).trans ((heap_old (by simp <;> omega)).trans (heap_new (by simp)))
    have g2 : W.heap[(w.heap.size + 2)]? = some (.cells #[.slice A2 c.es.length n2, .slice B2 c.ks.length m2, .slice D2 cc.length k2] 29 (0, 0)) := (hW.block _ (by omega)).trans (heap_new (by simp))
    have hB : Below w.heap.size w W := ((((Below.refl _ w).alloc (Nat.le_refl _) _).alloc (by simp <;> omega) _).alloc (by simp <;> omega) _).trans (hW.mono (by omega))
    exact ⟨hB, by have := hW.size; simpa using this, HC0.out _ hB, HD0.out _ hB, HC1.out _ hB, HD1.out _ hB, HC2.out _ hB, HD2.out _ hB, cell_cells (i := 0) g0, cell_cells (i := 1) g0, cell_cells (i := 2) g0, cell_cells (i := 0) g1, cell_cells (i := 1) g1, cell_cells (i := 2) g1, cell_cells (i := 0) g2, cell_cells (i := 1) g2, cell_cells (i := 2) g2⟩
  have hnb1 : w.heap.size + 1 ≠ w.heap.size := by omega
  have hnb2 : w.heap.size + 2 ≠ w.heap.size := by omega
  go_enter Tryz.func8, Tryz.ntmps8
  obtain ⟨SM, HSM⟩ : ∃ q : Bool, Hid (([(a, ac), (b, bc), (c, cc)] : List Kn).all (fun x => sml9 x.1 x.2 40) = q) := ⟨_, rfl⟩
  obtain ⟨RM, HRM⟩ : ∃ q : Bool, Hid (([(a, ac), (b, bc), (c, cc)] : List Kn).all (fun x => caR x.1 x.2) = q) := ⟨_, rfl⟩
  go_wp2_with fail
  obtain ⟨hB, hs, rt0, rc0, rt1, rc1, rt2, rc2, c00, c01, c02, c10, c11, c12, c20, c21, c22⟩ := HX0.out _ (Below.refl _ _)
  refine (awake09_any _).mono ?_
  rintro e w1 ⟨rfl, hb⟩
  have hbk1 : Hid (Below (w.heap.size + 3) (((w.alloc (.cells #[.slice A0 a.es.length n0, .slice B0 a.ks.length m0, .slice D0 ac.length k0] 29)).alloc (.cells #[.slice A1 b.es.length n1, .slice B1 b.ks.length m1, .slice D1 bc.length k1] 29)).alloc (.cells #[.slice A2 c.es.length n2, .slice B2 c.ks.length m2, .slice D2 cc.length k2] 29)) w1) := hid (hb.mono (by first | omega | (simp; done) | (simp; omega)))
  clear hb
  clear hB hs rt0 rc0 rt1 rc1 rt2 rc2 c00 c01 c02 c10 c11 c12 c20 c21 c22
  obtain ⟨hB, hs, rt0, rc0, rt1, rc1, rt2, rc2, c00, c01, c02, c10, c11, c12, c20, c21, c22⟩ := HX0.out _ hbk1.out
  go_wp2_with fail
  have hsl_le : (w.heap.size + 3) ≤ (w1).heap.size := (by first | omega | (simp; done) | (simp; omega))
  clear hB hs rt0 rc0 rt1 rc1 rt2 rc2 c00 c01 c02 c10 c11 c12 c20 c21 c22
  obtain ⟨hB, hs, rt0, rc0, rt1, rc1, rt2, rc2, c00, c01, c02, c10, c11, c12, c20, c21, c22⟩ := HX0.out _ (hbk1.out.alloc hsl_le (.cells #[.slice A0 a.es.length n0, .slice B0 a.ks.length m0, .slice D0 ac.length k0, .slice A1 b.es.length n1, .slice B1 b.ks.length m1, .slice D1 bc.length k1, .slice A2 c.es.length n2, .slice B2 c.ks.length m2, .slice D2 cc.length k2] 29))
  refine (small09_any [(a, ac), (b, bc), (c, cc)] _ _ (slp3 (heap_new rfl) (kn_at rt0 rc0) (kn_at rt1 rc1) (kn_at rt2 rc2) (by simp))).mono ?_
  rw [HSM.out]
  rintro e w2 ⟨rfl, hb⟩
  have hbk2 : Hid (Below (w.heap.size + 3) (((w.alloc (.cells #[.slice A0 a.es.length n0, .slice B0 a.ks.length m0, .slice D0 ac.length k0] 29)).alloc (.cells #[.slice A1 b.es.length n1, .slice B1 b.ks.length m1, .slice D1 bc.length k1] 29)).alloc (.cells #[.slice A2 c.es.length n2, .slice B2 c.ks.length m2, .slice D2 cc.length k2] 29)) w2) := hid ((hbk1.out.alloc hsl_le (.cells #[.slice A0 a.es.length n0, .slice B0 a.ks.length m0, .slice D0 ac.length k0, .slice A1 b.es.length n1, .slice B1 b.ks.length m1, .slice D1 bc.length k1, .slice A2 c.es.length n2, .slice B2 c.ks.length m2, .slice D2 cc.length k2] 29)).trans (hb.mono (by first | omega | (simp; done) | (simp; omega))))
  clear hb
  clear hB hs rt0 rc0 rt1 rc1 rt2 rc2 c00 c01 c02 c10 c11 c12 c20 c21 c22
  obtain ⟨hB, hs, rt0, rc0, rt1, rc1, rt2, rc2, c00, c01, c02, c10, c11, c12, c20, c21, c22⟩ := HX0.out _ hbk2.out
  cases SM
  · skip
    go_wp2_with fail
    refine (awake09_any _).mono ?_
    rintro e w3 ⟨rfl, hb⟩
    have hbk3 : Hid (Below (w.heap.size + 3) (((w.alloc (.cells #[.slice A0 a.es.length n0, .slice B0 a.ks.length m0, .slice D0 ac.length k0] 29)).alloc (.cells #[.slice A1 b.es.length n1, .slice B1 b.ks.length m1, .slice D1 bc.length k1] 29)).alloc (.cells #[.slice A2 c.es.length n2, .slice B2 c.ks.length m2, .slice D2 cc.length k2] 29)) w3) := hid (hbk2.out.trans (hb.mono (by first | omega | (simp; done) | (simp; omega))))
    clear hb
    clear hB hs rt0 rc0 rt1 rc1 rt2 rc2 c00 c01 c02 c10 c11 c12 c20 c21 c22
    obtain ⟨hB, hs, rt0, rc0, rt1, rc1, rt2, rc2, c00, c01, c02, c10, c11, c12, c20, c21, c22⟩ := HX0.out _ hbk3.out
    go_wp2_with fail
    go_ret
    exact ⟨rfl, hB⟩
  obtain ⟨⟨z1, z2⟩, ⟨z3, z4⟩, z5, z6⟩ := sml_all3 HSM.out
  simp only at z1 z2 z3 z4 z5 z6
  go_wp2_with fail
  have hsl_le : (w.heap.size + 3) ≤ (w2).heap.size := (by first | omega | (simp; done) | (simp; omega))
  clear hB hs rt0 rc0 rt1 rc1 rt2 rc2 c00 c01 c02 c10 c11 c12 c20 c21 c22
  obtain ⟨hB, hs, rt0, rc0, rt1, rc1, rt2, rc2, c00, c01, c02, c10, c11, c12, c20, c21, c22⟩ := HX0.out _ (hbk2.out.alloc hsl_le (.cells #[.slice A0 a.es.length n0, .slice B0 a.ks.length m0, .slice D0 ac.length k0, .slice A1 b.es.length n1, .slice B1 b.ks.length m1, .slice D1 bc.length k1, .slice A2 c.es.length n2, .slice B2 c.ks.length m2, .slice D2 cc.length k2] 29))
  refine (right09_any [(a, ac), (b, bc), (c, cc)] _ _ (slp3 (heap_new rfl) (kn_at rt0 rc0) (kn_at rt1 rc1) (kn_at rt2 rc2) (by simp)) (fun x hx => by simp at hx; rcases hx with rfl | rfl | rfl <;> exact ⟨by simp only; omega, by simp only; omega⟩)).mono ?_
  rw [HRM.out]
  rintro e w3 ⟨rfl, hb⟩
  have hbk3 : Hid (Below (w.heap.size + 3) (((w.alloc (.cells #[.slice A0 a.es.length n0, .slice B0 a.ks.length m0, .slice D0 ac.length k0] 29)).alloc (.cells #[.slice A1 b.es.length n1, .slice B1 b.ks.length m1, .slice D1 bc.length k1] 29)).alloc (.cells #[.slice A2 c.es.length n2, .slice B2 c.ks.length m2, .slice D2 cc.length k2] 29)) w3) := hid ((hbk2.out.alloc hsl_le (.cells #[.slice A0 a.es.length n0, .slice B0 a.ks.length m0, .slice D0 ac.length k0, .slice A1 b.es.length n1, .slice B1 b.ks.length m1, .slice D1 bc.length k1, .slice A2 c.es.length n2, .slice B2 c.ks.length m2, .slice D2 cc.length k2] 29)).trans (hb.mono (by first | omega | (simp; done) | (simp; omega))))
  clear hb
  clear hB hs rt0 rc0 rt1 rc1 rt2 rc2 c00 c01 c02 c10 c11 c12 c20 c21 c22
  obtain ⟨hB, hs, rt0, rc0, rt1, rc1, rt2, rc2, c00, c01, c02, c10, c11, c12, c20, c21, c22⟩ := HX0.out _ hbk3.out
  cases RM
  · skip
    go_wp2_with fail
    refine (awake09_any _).mono ?_
    rintro e w4 ⟨rfl, hb⟩
    have hbk4 : Hid (Below (w.heap.size + 3) (((w.alloc (.cells #[.slice A0 a.es.length n0, .slice B0 a.ks.length m0, .slice D0 ac.length k0] 29)).alloc (.cells #[.slice A1 b.es.length n1, .slice B1 b.ks.length m1, .slice D1 bc.length k1] 29)).alloc (.cells #[.slice A2 c.es.length n2, .slice B2 c.ks.length m2, .slice D2 cc.length k2] 29)) w4) := hid (hbk3.out.trans (hb.mono (by first | omega | (simp; done) | (simp; omega))))
    clear hb
    clear hB hs rt0 rc0 rt1 rc1 rt2 rc2 c00 c01 c02 c10 c11 c12 c20 c21 c22
    obtain ⟨hB, hs, rt0, rc0, rt1, rc1, rt2, rc2, c00, c01, c02, c10, c11, c12, c20, c21, c22⟩ := HX0.out _ hbk4.out
    go_wp2_with fail
    go_ret
    exact ⟨rfl, hB⟩
  obtain ⟨U, UC, P, Q, J1, P1, E1, E2, E3, E4, E5, v1, v2⟩ := least_plain (car_all3 HRM.out) z1 z2 z3 z4
  go_wp2_with fail
  refine (l09join_any ac bc a b _ _ _ _ _ _ _ rt0 rt1 rc0 rc1 (by omega) (by omega) (by omega) (by omega)).mono ?_
  rw [J1.out, P1.out]
  rintro e w4 ⟨xe4, xk4, xc4, rfl, hrd4, hsl4, hb⟩
  obtain ⟨A4x, n4x, B4x, m4x, rfl, rfl⟩ := rda_shape hrd4
  obtain ⟨D4x, k4x, rfl⟩ := hsl4.shape
  have hbk4 : Hid (Below (w.heap.size + 3) (((w.alloc (.cells #[.slice A0 a.es.length n0, .slice B0 a.ks.length m0, .slice D0 ac.length k0] 29)).alloc (.cells #[.slice A1 b.es.length n1, .slice B1 b.ks.length m1, .slice D1 bc.length k1] 29)).alloc (.cells #[.slice A2 c.es.length n2, .slice B2 c.ks.length m2, .slice D2 cc.length k2] 29)) w4) := hid (hbk3.out.trans (hb.mono (by first | omega | (simp; done) | (simp; omega))))
  clear hb
  clear hB hs rt0 rc0 rt1 rc1 rt2 rc2 c00 c01 c02 c10 c11 c12 c20 c21 c22
  obtain ⟨hB, hs, rt0, rc0, rt1, rc1, rt2, rc2, c00, c01, c02, c10, c11, c12, c20, c21, c22⟩ := HX0.out _ hbk4.out
  have hlt4369 : w.heap.size < w4.heap.size := by omega
  have hne4369 : w.heap.size ≠ w4.heap.size := by omega
  have hlt4916 : (w.heap.size + 1) < w4.heap.size := by omega
  have hne4916 : (w.heap.size + 1) ≠ w4.heap.size := by omega
  have hlt4348 : (w.heap.size + 2) < w4.heap.size := by omega
  have hne4348 : (w.heap.size + 2) ≠ w4.heap.size := by omega
  have HX1 : Hid (∀ W, Below (w4.heap.size + 1) (w4.alloc (.cells #[.slice A4x U.es.length n4x, .slice B4x U.ks.length m4x, .slice D4x UC.length k4x] 29)) W → (w4.heap.size + 1 ≤ (W).heap.size ∧ U.rd W (W).heap.size (.slice A4x U.es.length n4x) (.slice B4x U.ks.length m4x) ∧ SlP W (W).heap.size 3 SpE (.slice D4x UC.length k4x) UC ∧ (W).cell? ⟨w4.heap.size, 0, none⟩ = some (.slice A4x U.es.length n4x) ∧ (W).cell? ⟨w4.heap.size, 1, none⟩ = some (.slice B4x U.ks.length m4x) ∧ (W).cell? ⟨w4.heap.size, 2, none⟩ = some (.slice D4x UC.length k4x) ∧ Below w.heap.size w W ∧ w.heap.size + 3 ≤ (W).heap.size ∧ a.rd W (W).heap.size (.slice A0 a.es.length n0) (.slice B0 a.ks.length m0) ∧ SlP W (W).heap.size 3 SpE (.slice D0 ac.length k0) ac ∧ b.rd W (W).heap.size (.slice A1 b.es.length n1) (.slice B1 b.ks.length m1) ∧ SlP W (W).heap.size 3 SpE (.slice D1 bc.length k1) bc ∧ c.rd W (W).heap.size (.slice A2 c.es.length n2) (.slice B2 c.ks.length m2) ∧ SlP W (W).heap.size 3 SpE (.slice D2 cc.length k2) cc ∧ (W).cell? ⟨w.heap.size, 0, none⟩ = some (.slice A0 a.es.length n0) ∧ (W).cell? ⟨w.heap.size, 1, none⟩ = some (.slice B0 a.ks.length m0) ∧ (W).cell? ⟨w.heap.size, 2, none⟩ = some (.slice D0 ac.length k0) ∧ (W).cell? ⟨(w.heap.size + 1), 0, none⟩ = some (.slice A1 b.es.length n1) ∧ (W).cell? ⟨(w.heap.size + 1), 1, none⟩ = some (.slice B1 b.ks.length m1) ∧ (W).cell? ⟨(w.heap.size + 1), 2, none⟩ = some (.slice D1 bc.length k1) ∧ (W).cell? ⟨(w.heap.size + 2), 0, none⟩ = some (.slice A2 c.es.length n2) ∧ (W).cell? ⟨(w.heap.size + 2), 1, none⟩ = some (.slice B2 c.ks.length m2) ∧ (W).cell? ⟨(w.heap.size + 2), 2, none⟩ = some (.slice D2 cc.length k2))) := fun W hW => by
    have g0 := (hW.block w4.heap.size (by omega)).trans (heap_new rfl)
    have hB : Below w4.heap.size w4 W := ((Below.refl _ w4).alloc (Nat.le_refl _) _).trans (hW.mono (by omega))
    exact ⟨by have := hW.size; simpa using this, rda_rd hrd4 (fun b hb => hb.2) hB, hsl4.slp (fun b hb => hb.2) hB, cell_cells (i := 0) g0, cell_cells (i := 1) g0, cell_cells (i := 2) g0, HX0.out W (hbk4.out.trans (hB.mono (by omega)))⟩
  clear hrd4 hsl4
  go_wp2_with fail
  clear hB hs rt0 rc0 rt1 rc1 rt2 rc2 c00 c01 c02 c10 c11 c12 c20 c21 c22
  obtain ⟨hs_u, rt_u, rc_u, c0_u, c1_u, c2_u, hB, hs, rt0, rc0, rt1, rc1, rt2, rc2, c00, c01, c02, c10, c11, c12, c20, c21, c22⟩ := HX1.out _ (Below.refl _ _)
  cases P
  · skip
    go_upto_region 4 with (fail)
    have hsz1 : (w4.heap.size + 1) ≤ ((w4.alloc (.cells #[.slice A4x U.es.length n4x, .slice B4x U.ks.length m4x, .slice D4x UC.length k4x] 29))).heap.size := (by first | omega | (simp; done) | (simp; omega))
    have Hrt_u_1 : Hid (∀ W, Below (w4.heap.size + 1) (w4.alloc (.cells #[.slice A4x U.es.length n4x, .slice B4x U.ks.length m4x, .slice D4x UC.length k4x] 29)) W → U.rd W (W).heap.size (.slice A4x U.es.length n4x) (.slice B4x U.ks.length m4x)) := fun W hW => by
      obtain ⟨_, z, _, _, _, _, _, _, _, _, _, _, _, _, _, _, _, _, _, _, _, _, _⟩ := HX1.out W hW
      exact z
    have Hrc_u_1 : Hid (∀ W, Below (w4.heap.size + 1) (w4.alloc (.cells #[.slice A4x U.es.length n4x, .slice B4x U.ks.length m4x, .slice D4x UC.length k4x] 29)) W → SlP W (W).heap.size 3 SpE (.slice D4x UC.length k4x) UC) := fun W hW => by
      obtain ⟨_, _, z, _, _, _, _, _, _, _, _, _, _, _, _, _, _, _, _, _, _, _, _⟩ := HX1.out W hW
      exact z
    have Hrt0_1 : Hid (∀ W, Below (w4.heap.size + 1) (w4.alloc (.cells #[.slice A4x U.es.length n4x, .slice B4x U.ks.length m4x, .slice D4x UC.length k4x] 29)) W → a.rd W (W).heap.size (.slice A0 a.es.length n0) (.slice B0 a.ks.length m0)) := fun W hW => by
      obtain ⟨_, _, _, _, _, _, _, _, z, _, _, _, _, _, _, _, _, _, _, _, _, _, _⟩ := HX1.out W hW
      exact z
    have Hrc0_1 : Hid (∀ W, Below (w4.heap.size + 1) (w4.alloc (.cells #[.slice A4x U.es.length n4x, .slice B4x U.ks.length m4x, .slice D4x UC.length k4x] 29)) W → SlP W (W).heap.size 3 SpE (.slice D0 ac.length k0) ac) := fun W hW => by
      obtain ⟨_, _, _, _, _, _, _, _, _, z, _, _, _, _, _, _, _, _, _, _, _, _, _⟩ := HX1.out W hW
      exact z
    have Hrt1_1 : Hid (∀ W, Below (w4.heap.size + 1) (w4.alloc (.cells #[.slice A4x U.es.length n4x, .slice B4x U.ks.length m4x, .slice D4x UC.length k4x] 29)) W → b.rd W (W).heap.size (.slice A1 b.es.length n1) (.slice B1 b.ks.length m1)) := fun W hW => by
      obtain ⟨_, _, _, _, _, _, _, _, _, _, z, _, _, _, _, _, _, _, _, _, _, _, _⟩ := HX1.out W hW
      exact z
    have Hrc1_1 : Hid (∀ W, Below (w4.heap.size + 1) (w4.alloc (.cells #[.slice A4x U.es.length n4x, .slice B4x U.ks.length m4x, .slice D4x UC.length k4x] 29)) W → SlP W (W).heap.size 3 SpE (.slice D1 bc.length k1) bc) := fun W hW => by
      obtain ⟨_, _, _, _, _, _, _, _, _, _, _, z, _, _, _, _, _, _, _, _, _, _, _⟩ := HX1.out W hW
      exact z
    have Hrt2_1 : Hid (∀ W, Below (w4.heap.size + 1) (w4.alloc (.cells #[.slice A4x U.es.length n4x, .slice B4x U.ks.length m4x, .slice D4x UC.length k4x] 29)) W → c.rd W (W).heap.size (.slice A2 c.es.length n2) (.slice B2 c.ks.length m2)) := fun W hW => by
      obtain ⟨_, _, _, _, _, _, _, _, _, _, _, _, z, _, _, _, _, _, _, _, _, _, _⟩ := HX1.out W hW
      exact z
    have Hrc2_1 : Hid (∀ W, Below (w4.heap.size + 1) (w4.alloc (.cells #[.slice A4x U.es.length n4x, .slice B4x U.ks.length m4x, .slice D4x UC.length k4x] 29)) W → SlP W (W).heap.size 3 SpE (.slice D2 cc.length k2) cc) := fun W hW => by
      obtain ⟨_, _, _, _, _, _, _, _, _, _, _, _, _, z, _, _, _, _, _, _, _, _, _⟩ := HX1.out W hW
      exact z
    have HQ1_0 := hid (fun (w1 : World) (hb1 : Below ((w4.alloc (.cells #[.slice A4x U.es.length n4x, .slice B4x U.ks.length m4x, .slice D4x UC.length k4x] 29))).heap.size (w4.alloc (.cells #[.slice A4x U.es.length n4x, .slice B4x U.ks.length m4x, .slice D4x UC.length k4x] 29)) w1) => Calls.boolEq (cleqK_any ac UC a U _ _ _ _ _ _ _ (Hrt0_1.out _ ((Below.refl _ _).trans (hb1.mono hsz1))) (Hrt_u_1.out _ ((Below.refl _ _).trans (hb1.mono hsz1))) (Hrc0_1.out _ ((Below.refl _ _).trans (hb1.mono hsz1))) (Hrc_u_1.out _ ((Below.refl _ _).trans (hb1.mono hsz1))) (by omega) (by omega) (by omega) (by omega)) E1.out)
    have HQ1_1 := hid (fun (w1 : World) (hb1 : Below ((w4.alloc (.cells #[.slice A4x U.es.length n4x, .slice B4x U.ks.length m4x, .slice D4x UC.length k4x] 29))).heap.size (w4.alloc (.cells #[.slice A4x U.es.length n4x, .slice B4x U.ks.length m4x, .slice D4x UC.length k4x] 29)) w1) => Calls.boolEq (cleqK_any bc UC b U _ _ _ _ _ _ _ (Hrt1_1.out _ ((Below.refl _ _).trans (hb1.mono hsz1))) (Hrt_u_1.out _ ((Below.refl _ _).trans (hb1.mono hsz1))) (Hrc1_1.out _ ((Below.refl _ _).trans (hb1.mono hsz1))) (Hrc_u_1.out _ ((Below.refl _ _).trans (hb1.mono hsz1))) (by omega) (by omega) (by omega) (by omega)) E2.out)
    have HQ1_2 := hid (fun (w1 : World) (hb1 : Below ((w4.alloc (.cells #[.slice A4x U.es.length n4x, .slice B4x U.ks.length m4x, .slice D4x UC.length k4x] 29))).heap.size (w4.alloc (.cells #[.slice A4x U.es.length n4x, .slice B4x U.ks.length m4x, .slice D4x UC.length k4x] 29)) w1) => Calls.boolEq (cleqK_any UC cc U c _ _ _ _ _ _ _ (Hrt_u_1.out _ ((Below.refl _ _).trans (hb1.mono hsz1))) (Hrt2_1.out _ ((Below.refl _ _).trans (hb1.mono hsz1))) (Hrc_u_1.out _ ((Below.refl _ _).trans (hb1.mono hsz1))) (Hrc2_1.out _ ((Below.refl _ _).trans (hb1.mono hsz1))) (by omega) (by omega) (by omega) (by omega)) E3.out)
    have HQ1_3 := hid (fun (w1 : World) (hb1 : Below ((w4.alloc (.cells #[.slice A4x U.es.length n4x, .slice B4x U.ks.length m4x, .slice D4x UC.length k4x] 29))).heap.size (w4.alloc (.cells #[.slice A4x U.es.length n4x, .slice B4x U.ks.length m4x, .slice D4x UC.length k4x] 29)) w1) => Calls.boolEq (cleqK_any ac cc a c _ _ _ _ _ _ _ (Hrt0_1.out _ ((Below.refl _ _).trans (hb1.mono hsz1))) (Hrt2_1.out _ ((Below.refl _ _).trans (hb1.mono hsz1))) (Hrc0_1.out _ ((Below.refl _ _).trans (hb1.mono hsz1))) (Hrc2_1.out _ ((Below.refl _ _).trans (hb1.mono hsz1))) (by omega) (by omega) (by omega) (by omega)) E4.out)
    have HQ1_4 := hid (fun (w1 : World) (hb1 : Below ((w4.alloc (.cells #[.slice A4x U.es.length n4x, .slice B4x U.ks.length m4x, .slice D4x UC.length k4x] 29))).heap.size (w4.alloc (.cells #[.slice A4x U.es.length n4x, .slice B4x U.ks.length m4x, .slice D4x UC.length k4x] 29)) w1) => Calls.boolEq (cleqK_any bc cc b c _ _ _ _ _ _ _ (Hrt1_1.out _ ((Below.refl _ _).trans (hb1.mono hsz1))) (Hrt2_1.out _ ((Below.refl _ _).trans (hb1.mono hsz1))) (Hrc1_1.out _ ((Below.refl _ _).trans (hb1.mono hsz1))) (Hrc2_1.out _ ((Below.refl _ _).trans (hb1.mono hsz1))) (by omega) (by omega) (by omega) (by omega)) E5.out)
    have f_c0_u := far_cell (B := ((w4.alloc (.cells #[.slice A4x U.es.length n4x, .slice B4x U.ks.length m4x, .slice D4x UC.length k4x] 29))).heap.size) c0_u (by first | omega | (simp; done) | (simp; omega))
    have f_c1_u := far_cell (B := ((w4.alloc (.cells #[.slice A4x U.es.length n4x, .slice B4x U.ks.length m4x, .slice D4x UC.length k4x] 29))).heap.size) c1_u (by first | omega | (simp; done) | (simp; omega))
    have f_c2_u := far_cell (B := ((w4.alloc (.cells #[.slice A4x U.es.length n4x, .slice B4x U.ks.length m4x, .slice D4x UC.length k4x] 29))).heap.size) c2_u (by first | omega | (simp; done) | (simp; omega))
    have f_c00 := far_cell (B := ((w4.alloc (.cells #[.slice A4x U.es.length n4x, .slice B4x U.ks.length m4x, .slice D4x UC.length k4x] 29))).heap.size) c00 (by first | omega | (simp; done) | (simp; omega))
    have f_c01 := far_cell (B := ((w4.alloc (.cells #[.slice A4x U.es.length n4x, .slice B4x U.ks.length m4x, .slice D4x UC.length k4x] 29))).heap.size) c01 (by first | omega | (simp; done) | (simp; omega))
    have f_c02 := far_cell (B := ((w4.alloc (.cells #[.slice A4x U.es.length n4x, .slice B4x U.ks.length m4x, .slice D4x UC.length k4x] 29))).heap.size) c02 (by first | omega | (simp; done) | (simp; omega))
    have f_c10 := far_cell (B := ((w4.alloc (.cells #[.slice A4x U.es.length n4x, .slice B4x U.ks.length m4x, .slice D4x UC.length k4x] 29))).heap.size) c10 (by first | omega | (simp; done) | (simp; omega))
    have f_c11 := far_cell (B := ((w4.alloc (.cells #[.slice A4x U.es.length n4x, .slice B4x U.ks.length m4x, .slice D4x UC.length k4x] 29))).heap.size) c11 (by first | omega | (simp; done) | (simp; omega))
    have f_c12 := far_cell (B := ((w4.alloc (.cells #[.slice A4x U.es.length n4x, .slice B4x U.ks.length m4x, .slice D4x UC.length k4x] 29))).heap.size) c12 (by first | omega | (simp; done) | (simp; omega))
    have f_c20 := far_cell (B := ((w4.alloc (.cells #[.slice A4x U.es.length n4x, .slice B4x U.ks.length m4x, .slice D4x UC.length k4x] 29))).heap.size) c20 (by first | omega | (simp; done) | (simp; omega))
    have f_c21 := far_cell (B := ((w4.alloc (.cells #[.slice A4x U.es.length n4x, .slice B4x U.ks.length m4x, .slice D4x UC.length k4x] 29))).heap.size) c21 (by first | omega | (simp; done) | (simp; omega))
    have f_c22 := far_cell (B := ((w4.alloc (.cells #[.slice A4x U.es.length n4x, .slice B4x U.ks.length m4x, .slice D4x UC.length k4x] 29))).heap.size) c22 (by first | omega | (simp; done) | (simp; omega))
    clear hs_u rt_u rc_u c0_u c1_u c2_u hB hs rt0 rc0 rt1 rc1 rt2 rc2 c00 c01 c02 c10 c11 c12 c20 c21 c22
    refine wp_region_far ((w4.alloc (.cells #[.slice A4x U.es.length n4x, .slice B4x U.ks.length m4x, .slice D4x UC.length k4x] 29))).heap.size (by kernel_rfl) (by kernel_rfl) ?_
    repeat (go_big_quiet_step (first | (go_at_call 30; with_reducible exact Calls.far_all (Nat.le_refl _) HQ1_0.out) | (go_at_call 30; with_reducible exact Calls.far_all (Nat.le_refl _) HQ1_1.out) | (go_at_call 30; with_reducible exact Calls.far_all (Nat.le_refl _) HQ1_2.out) | (go_at_call 30; with_reducible exact Calls.far_all (Nat.le_refl _) HQ1_3.out) | (go_at_call 30; with_reducible exact Calls.far_all (Nat.le_refl _) HQ1_4.out)))
    refine wpQuiet_nil ?_
    intro w5 hb
    clear f_c0_u f_c1_u f_c2_u f_c00 f_c01 f_c02 f_c10 f_c11 f_c12 f_c20 f_c21 f_c22
    have hbk5 : Hid (Below (w4.heap.size + 1) (w4.alloc (.cells #[.slice A4x U.es.length n4x, .slice B4x U.ks.length m4x, .slice D4x UC.length k4x] 29)) w5) := hid ((Below.refl _ _).trans (hb.mono hsz1))
    clear hb
    obtain ⟨hs_u, rt_u, rc_u, c0_u, c1_u, c2_u, hB, hs, rt0, rc0, rt1, rc1, rt2, rc2, c00, c01, c02, c10, c11, c12, c20, c21, c22⟩ := HX1.out _ hbk5.out
    go_wp2_with fail
    go_ret
    exact ⟨rfl, hB⟩
  · cases Q
    · skip
      go_upto_region 4 with (fail)
      have hsz1 : (w4.heap.size + 1) ≤ ((w4.alloc (.cells #[.slice A4x U.es.length n4x, .slice B4x U.ks.length m4x, .slice D4x UC.length k4x] 29))).heap.size := (by first | omega | (simp; done) | (simp; omega))
      have Hrt_u_1 : Hid (∀ W, Below (w4.heap.size + 1) (w4.alloc (.cells #[.slice A4x U.es.length n4x, .slice B4x U.ks.length m4x, .slice D4x UC.length k4x] 29)) W → U.rd W (W).heap.size (.slice A4x U.es.length n4x) (.slice B4x U.ks.length m4x)) := fun W hW => by
        obtain ⟨_, z, _, _, _, _, _, _, _, _, _, _, _, _, _, _, _, _, _, _, _, _, _⟩ := HX1.out W hW
        exact z
      have Hrc_u_1 : Hid (∀ W, Below (w4.heap.size + 1) (w4.alloc (.cells #[.slice A4x U.es.length n4x, .slice B4x U.ks.length m4x, .slice D4x UC.length k4x] 29)) W → SlP W (W).heap.size 3 SpE (.slice D4x UC.length k4x) UC) := fun W hW => by
        obtain ⟨_, _, z, _, _, _, _, _, _, _, _, _, _, _, _, _, _, _, _, _, _, _, _⟩ := HX1.out W hW
        exact z
      have Hrt0_1 : Hid (∀ W, Below (w4.heap.size + 1) (w4.alloc (.cells #[.slice A4x U.es.length n4x, .slice B4x U.ks.length m4x, .slice D4x UC.length k4x] 29)) W → a.rd W (W).heap.size (.slice A0 a.es.length n0) (.slice B0 a.ks.length m0)) := fun W hW => by
        obtain ⟨_, _, _, _, _, _, _, _, z, _, _, _, _, _, _, _, _, _, _, _, _, _, _⟩ := HX1.out W hW
        exact z
      have Hrc0_1 : Hid (∀ W, Below (w4.heap.size + 1) (w4.alloc (.cells #[.slice A4x U.es.length n4x, .slice B4x U.ks.length m4x, .slice D4x UC.length k4x] 29)) W → SlP W (W).heap.size 3 SpE (.slice D0 ac.length k0) ac) := fun W hW => by
        obtain ⟨_, _, _, _, _, _, _, _, _, z, _, _, _, _, _, _, _, _, _, _, _, _, _⟩ := HX1.out W hW
        exact z
      have Hrt1_1 : Hid (∀ W, Below (w4.heap.size + 1) (w4.alloc (.cells #[.slice A4x U.es.length n4x, .slice B4x U.ks.length m4x, .slice D4x UC.length k4x] 29)) W → b.rd W (W).heap.size (.slice A1 b.es.length n1) (.slice B1 b.ks.length m1)) := fun W hW => by
        obtain ⟨_, _, _, _, _, _, _, _, _, _, z, _, _, _, _, _, _, _, _, _, _, _, _⟩ := HX1.out W hW
        exact z
      have Hrc1_1 : Hid (∀ W, Below (w4.heap.size + 1) (w4.alloc (.cells #[.slice A4x U.es.length n4x, .slice B4x U.ks.length m4x, .slice D4x UC.length k4x] 29)) W → SlP W (W).heap.size 3 SpE (.slice D1 bc.length k1) bc) := fun W hW => by
        obtain ⟨_, _, _, _, _, _, _, _, _, _, _, z, _, _, _, _, _, _, _, _, _, _, _⟩ := HX1.out W hW
        exact z
      have Hrt2_1 : Hid (∀ W, Below (w4.heap.size + 1) (w4.alloc (.cells #[.slice A4x U.es.length n4x, .slice B4x U.ks.length m4x, .slice D4x UC.length k4x] 29)) W → c.rd W (W).heap.size (.slice A2 c.es.length n2) (.slice B2 c.ks.length m2)) := fun W hW => by
        obtain ⟨_, _, _, _, _, _, _, _, _, _, _, _, z, _, _, _, _, _, _, _, _, _, _⟩ := HX1.out W hW
        exact z
      have Hrc2_1 : Hid (∀ W, Below (w4.heap.size + 1) (w4.alloc (.cells #[.slice A4x U.es.length n4x, .slice B4x U.ks.length m4x, .slice D4x UC.length k4x] 29)) W → SlP W (W).heap.size 3 SpE (.slice D2 cc.length k2) cc) := fun W hW => by
        obtain ⟨_, _, _, _, _, _, _, _, _, _, _, _, _, z, _, _, _, _, _, _, _, _, _⟩ := HX1.out W hW
        exact z
      have HQ1_0 := hid (fun (w1 : World) (hb1 : Below ((w4.alloc (.cells #[.slice A4x U.es.length n4x, .slice B4x U.ks.length m4x, .slice D4x UC.length k4x] 29))).heap.size (w4.alloc (.cells #[.slice A4x U.es.length n4x, .slice B4x U.ks.length m4x, .slice D4x UC.length k4x] 29)) w1) => Calls.boolEq (cleqK_any ac UC a U _ _ _ _ _ _ _ (Hrt0_1.out _ ((Below.refl _ _).trans (hb1.mono hsz1))) (Hrt_u_1.out _ ((Below.refl _ _).trans (hb1.mono hsz1))) (Hrc0_1.out _ ((Below.refl _ _).trans (hb1.mono hsz1))) (Hrc_u_1.out _ ((Below.refl _ _).trans (hb1.mono hsz1))) (by omega) (by omega) (by omega) (by omega)) E1.out)
      have HQ1_1 := hid (fun (w1 : World) (hb1 : Below ((w4.alloc (.cells #[.slice A4x U.es.length n4x, .slice B4x U.ks.length m4x, .slice D4x UC.length k4x] 29))).heap.size (w4.alloc (.cells #[.slice A4x U.es.length n4x, .slice B4x U.ks.length m4x, .slice D4x UC.length k4x] 29)) w1) => Calls.boolEq (cleqK_any bc UC b U _ _ _ _ _ _ _ (Hrt1_1.out _ ((Below.refl _ _).trans (hb1.mono hsz1))) (Hrt_u_1.out _ ((Below.refl _ _).trans (hb1.mono hsz1))) (Hrc1_1.out _ ((Below.refl _ _).trans (hb1.mono hsz1))) (Hrc_u_1.out _ ((Below.refl _ _).trans (hb1.mono hsz1))) (by omega) (by omega) (by omega) (by omega)) E2.out)
      have HQ1_2 := hid (fun (w1 : World) (hb1 : Below ((w4.alloc (.cells #[.slice A4x U.es.length n4x, .slice B4x U.ks.length m4x, .slice D4x UC.length k4x] 29))).heap.size (w4.alloc (.cells #[.slice A4x U.es.length n4x, .slice B4x U.ks.length m4x, .slice D4x UC.length k4x] 29)) w1) => Calls.boolEq (cleqK_any UC cc U c _ _ _ _ _ _ _ (Hrt_u_1.out _ ((Below.refl _ _).trans (hb1.mono hsz1))) (Hrt2_1.out _ ((Below.refl _ _).trans (hb1.mono hsz1))) (Hrc_u_1.out _ ((Below.refl _ _).trans (hb1.mono hsz1))) (Hrc2_1.out _ ((Below.refl _ _).trans (hb1.mono hsz1))) (by omega) (by omega) (by omega) (by omega)) E3.out)
      have HQ1_3 := hid (fun (w1 : World) (hb1 : Below ((w4.alloc (.cells #[.slice A4x U.es.length n4x, .slice B4x U.ks.length m4x, .slice D4x UC.length k4x] 29))).heap.size (w4.alloc (.cells #[.slice A4x U.es.length n4x, .slice B4x U.ks.length m4x, .slice D4x UC.length k4x] 29)) w1) => Calls.boolEq (cleqK_any ac cc a c _ _ _ _ _ _ _ (Hrt0_1.out _ ((Below.refl _ _).trans (hb1.mono hsz1))) (Hrt2_1.out _ ((Below.refl _ _).trans (hb1.mono hsz1))) (Hrc0_1.out _ ((Below.refl _ _).trans (hb1.mono hsz1))) (Hrc2_1.out _ ((Below.refl _ _).trans (hb1.mono hsz1))) (by omega) (by omega) (by omega) (by omega)) E4.out)
      have HQ1_4 := hid (fun (w1 : World) (hb1 : Below ((w4.alloc (.cells #[.slice A4x U.es.length n4x, .slice B4x U.ks.length m4x, .slice D4x UC.length k4x] 29))).heap.size (w4.alloc (.cells #[.slice A4x U.es.length n4x, .slice B4x U.ks.length m4x, .slice D4x UC.length k4x] 29)) w1) => Calls.boolEq (cleqK_any bc cc b c _ _ _ _ _ _ _ (Hrt1_1.out _ ((Below.refl _ _).trans (hb1.mono hsz1))) (Hrt2_1.out _ ((Below.refl _ _).trans (hb1.mono hsz1))) (Hrc1_1.out _ ((Below.refl _ _).trans (hb1.mono hsz1))) (Hrc2_1.out _ ((Below.refl _ _).trans (hb1.mono hsz1))) (by omega) (by omega) (by omega) (by omega)) E5.out)
      have f_c0_u := far_cell (B := ((w4.alloc (.cells #[.slice A4x U.es.length n4x, .slice B4x U.ks.length m4x, .slice D4x UC.length k4x] 29))).heap.size) c0_u (by first | omega | (simp; done) | (simp; omega))
      have f_c1_u := far_cell (B := ((w4.alloc (.cells #[.slice A4x U.es.length n4x, .slice B4x U.ks.length m4x, .slice D4x UC.length k4x] 29))).heap.size) c1_u (by first | omega | (simp; done) | (simp; omega))
      have f_c2_u := far_cell (B := ((w4.alloc (.cells #[.slice A4x U.es.length n4x, .slice B4x U.ks.length m4x, .slice D4x UC.length k4x] 29))).heap.size) c2_u (by first | omega | (simp; done) | (simp; omega))
      have f_c00 := far_cell (B := ((w4.alloc (.cells #[.slice A4x U.es.length n4x, .slice B4x U.ks.length m4x, .slice D4x UC.length k4x] 29))).heap.size) c00 (by first | omega | (simp; done) | (simp; omega))
      have f_c01 := far_cell (B := ((w4.alloc (.cells #[.slice A4x U.es.length n4x, .slice B4x U.ks.length m4x, .slice D4x UC.length k4x] 29))).heap.size) c01 (by first | omega | (simp; done) | (simp; omega))
      have f_c02 := far_cell (B := ((w4.alloc (.cells #[.slice A4x U.es.length n4x, .slice B4x U.ks.length m4x, .slice D4x UC.length k4x] 29))).heap.size) c02 (by first | omega | (simp; done) | (simp; omega))
      have f_c10 := far_cell (B := ((w4.alloc (.cells #[.slice A4x U.es.length n4x, .slice B4x U.ks.length m4x, .slice D4x UC.length k4x] 29))).heap.size) c10 (by first | omega | (simp; done) | (simp; omega))
      have f_c11 := far_cell (B := ((w4.alloc (.cells #[.slice A4x U.es.length n4x, .slice B4x U.ks.length m4x, .slice D4x UC.length k4x] 29))).heap.size) c11 (by first | omega | (simp; done) | (simp; omega))
      have f_c12 := far_cell (B := ((w4.alloc (.cells #[.slice A4x U.es.length n4x, .slice B4x U.ks.length m4x, .slice D4x UC.length k4x] 29))).heap.size) c12 (by first | omega | (simp; done) | (simp; omega))
      have f_c20 := far_cell (B := ((w4.alloc (.cells #[.slice A4x U.es.length n4x, .slice B4x U.ks.length m4x, .slice D4x UC.length k4x] 29))).heap.size) c20 (by first | omega | (simp; done) | (simp; omega))
      have f_c21 := far_cell (B := ((w4.alloc (.cells #[.slice A4x U.es.length n4x, .slice B4x U.ks.length m4x, .slice D4x UC.length k4x] 29))).heap.size) c21 (by first | omega | (simp; done) | (simp; omega))
      have f_c22 := far_cell (B := ((w4.alloc (.cells #[.slice A4x U.es.length n4x, .slice B4x U.ks.length m4x, .slice D4x UC.length k4x] 29))).heap.size) c22 (by first | omega | (simp; done) | (simp; omega))
      clear hs_u rt_u rc_u c0_u c1_u c2_u hB hs rt0 rc0 rt1 rc1 rt2 rc2 c00 c01 c02 c10 c11 c12 c20 c21 c22
      refine wp_region_far ((w4.alloc (.cells #[.slice A4x U.es.length n4x, .slice B4x U.ks.length m4x, .slice D4x UC.length k4x] 29))).heap.size (by kernel_rfl) (by kernel_rfl) ?_
      repeat (go_big_quiet_step (first | (go_at_call 30; with_reducible exact Calls.far_all (Nat.le_refl _) HQ1_0.out) | (go_at_call 30; with_reducible exact Calls.far_all (Nat.le_refl _) HQ1_1.out) | (go_at_call 30; with_reducible exact Calls.far_all (Nat.le_refl _) HQ1_2.out) | (go_at_call 30; with_reducible exact Calls.far_all (Nat.le_refl _) HQ1_3.out) | (go_at_call 30; with_reducible exact Calls.far_all (Nat.le_refl _) HQ1_4.out)))
      refine wpQuiet_nil ?_
      intro w5 hb
      clear f_c0_u f_c1_u f_c2_u f_c00 f_c01 f_c02 f_c10 f_c11 f_c12 f_c20 f_c21 f_c22
      have hbk5 : Hid (Below (w4.heap.size + 1) (w4.alloc (.cells #[.slice A4x U.es.length n4x, .slice B4x U.ks.length m4x, .slice D4x UC.length k4x] 29)) w5) := hid ((Below.refl _ _).trans (hb.mono hsz1))
      clear hb
      obtain ⟨hs_u, rt_u, rc_u, c0_u, c1_u, c2_u, hB, hs, rt0, rc0, rt1, rc1, rt2, rc2, c00, c01, c02, c10, c11, c12, c20, c21, c22⟩ := HX1.out _ hbk5.out
      go_wp2_with fail
      go_ret
      exact ⟨rfl, hB⟩
    · skip
      go_upto_region 4 with (fail)
      have hsz1 : (w4.heap.size + 1) ≤ ((w4.alloc (.cells #[.slice A4x U.es.length n4x, .slice B4x U.ks.length m4x, .slice D4x UC.length k4x] 29))).heap.size := (by first | omega | (simp; done) | (simp; omega))
      have Hrt_u_1 : Hid (∀ W, Below (w4.heap.size + 1) (w4.alloc (.cells #[.slice A4x U.es.length n4x, .slice B4x U.ks.length m4x, .slice D4x UC.length k4x] 29)) W → U.rd W (W).heap.size (.slice A4x U.es.length n4x) (.slice B4x U.ks.length m4x)) := fun W hW => by
        obtain ⟨_, z, _, _, _, _, _, _, _, _, _, _, _, _, _, _, _, _, _, _, _, _, _⟩ := HX1.out W hW
        exact z
      have Hrc_u_1 : Hid (∀ W, Below (w4.heap.size + 1) (w4.alloc (.cells #[.slice A4x U.es.length n4x, .slice B4x U.ks.length m4x, .slice D4x UC.length k4x] 29)) W → SlP W (W).heap.size 3 SpE (.slice D4x UC.length k4x) UC) := fun W hW => by
        obtain ⟨_, _, z, _, _, _, _, _, _, _, _, _, _, _, _, _, _, _, _, _, _, _, _⟩ := HX1.out W hW
        exact z
      have Hrt0_1 : Hid (∀ W, Below (w4.heap.size + 1) (w4.alloc (.cells #[.slice A4x U.es.length n4x, .slice B4x U.ks.length m4x, .slice D4x UC.length k4x] 29)) W → a.rd W (W).heap.size (.slice A0 a.es.length n0) (.slice B0 a.ks.length m0)) := fun W hW => by
        obtain ⟨_, _, _, _, _, _, _, _, z, _, _, _, _, _, _, _, _, _, _, _, _, _, _⟩ := HX1.out W hW
        exact z
      have Hrc0_1 : Hid (∀ W, Below (w4.heap.size + 1) (w4.alloc (.cells #[.slice A4x U.es.length n4x, .slice B4x U.ks.length m4x, .slice D4x UC.length k4x] 29)) W → SlP W (W).heap.size 3 SpE (.slice D0 ac.length k0) ac) := fun W hW => by
        obtain ⟨_, _, _, _, _, _, _, _, _, z, _, _, _, _, _, _, _, _, _, _, _, _, _⟩ := HX1.out W hW
        exact z
      have Hrt1_1 : Hid (∀ W, Below (w4.heap.size + 1) (w4.alloc (.cells #[.slice A4x U.es.length n4x, .slice B4x U.ks.length m4x, .slice D4x UC.length k4x] 29)) W → b.rd W (W).heap.size (.slice A1 b.es.length n1) (.slice B1 b.ks.length m1)) := fun W hW => by
        obtain ⟨_, _, _, _, _, _, _, _, _, _, z, _, _, _, _, _, _, _, _, _, _, _, _⟩ := HX1.out W hW
        exact z
      have Hrc1_1 : Hid (∀ W, Below (w4.heap.size + 1) (w4.alloc (.cells #[.slice A4x U.es.length n4x, .slice B4x U.ks.length m4x, .slice D4x UC.length k4x] 29)) W → SlP W (W).heap.size 3 SpE (.slice D1 bc.length k1) bc) := fun W hW => by
        obtain ⟨_, _, _, _, _, _, _, _, _, _, _, z, _, _, _, _, _, _, _, _, _, _, _⟩ := HX1.out W hW
        exact z
      have Hrt2_1 : Hid (∀ W, Below (w4.heap.size + 1) (w4.alloc (.cells #[.slice A4x U.es.length n4x, .slice B4x U.ks.length m4x, .slice D4x UC.length k4x] 29)) W → c.rd W (W).heap.size (.slice A2 c.es.length n2) (.slice B2 c.ks.length m2)) := fun W hW => by
        obtain ⟨_, _, _, _, _, _, _, _, _, _, _, _, z, _, _, _, _, _, _, _, _, _, _⟩ := HX1.out W hW
        exact z
      have Hrc2_1 : Hid (∀ W, Below (w4.heap.size + 1) (w4.alloc (.cells #[.slice A4x U.es.length n4x, .slice B4x U.ks.length m4x, .slice D4x UC.length k4x] 29)) W → SlP W (W).heap.size 3 SpE (.slice D2 cc.length k2) cc) := fun W hW => by
        obtain ⟨_, _, _, _, _, _, _, _, _, _, _, _, _, z, _, _, _, _, _, _, _, _, _⟩ := HX1.out W hW
        exact z
      have HQ1_0 := hid (fun (w1 : World) (hb1 : Below ((w4.alloc (.cells #[.slice A4x U.es.length n4x, .slice B4x U.ks.length m4x, .slice D4x UC.length k4x] 29))).heap.size (w4.alloc (.cells #[.slice A4x U.es.length n4x, .slice B4x U.ks.length m4x, .slice D4x UC.length k4x] 29)) w1) => Calls.boolEq (cleqK_any ac UC a U _ _ _ _ _ _ _ (Hrt0_1.out _ ((Below.refl _ _).trans (hb1.mono hsz1))) (Hrt_u_1.out _ ((Below.refl _ _).trans (hb1.mono hsz1))) (Hrc0_1.out _ ((Below.refl _ _).trans (hb1.mono hsz1))) (Hrc_u_1.out _ ((Below.refl _ _).trans (hb1.mono hsz1))) (by omega) (by omega) (by omega) (by omega)) E1.out)
      have HQ1_1 := hid (fun (w1 : World) (hb1 : Below ((w4.alloc (.cells #[.slice A4x U.es.length n4x, .slice B4x U.ks.length m4x, .slice D4x UC.length k4x] 29))).heap.size (w4.alloc (.cells #[.slice A4x U.es.length n4x, .slice B4x U.ks.length m4x, .slice D4x UC.length k4x] 29)) w1) => Calls.boolEq (cleqK_any bc UC b U _ _ _ _ _ _ _ (Hrt1_1.out _ ((Below.refl _ _).trans (hb1.mono hsz1))) (Hrt_u_1.out _ ((Below.refl _ _).trans (hb1.mono hsz1))) (Hrc1_1.out _ ((Below.refl _ _).trans (hb1.mono hsz1))) (Hrc_u_1.out _ ((Below.refl _ _).trans (hb1.mono hsz1))) (by omega) (by omega) (by omega) (by omega)) E2.out)
      have HQ1_2 := hid (fun (w1 : World) (hb1 : Below ((w4.alloc (.cells #[.slice A4x U.es.length n4x, .slice B4x U.ks.length m4x, .slice D4x UC.length k4x] 29))).heap.size (w4.alloc (.cells #[.slice A4x U.es.length n4x, .slice B4x U.ks.length m4x, .slice D4x UC.length k4x] 29)) w1) => Calls.boolEq (cleqK_any UC cc U c _ _ _ _ _ _ _ (Hrt_u_1.out _ ((Below.refl _ _).trans (hb1.mono hsz1))) (Hrt2_1.out _ ((Below.refl _ _).trans (hb1.mono hsz1))) (Hrc_u_1.out _ ((Below.refl _ _).trans (hb1.mono hsz1))) (Hrc2_1.out _ ((Below.refl _ _).trans (hb1.mono hsz1))) (by omega) (by omega) (by omega) (by omega)) E3.out)
      have HQ1_3 := hid (fun (w1 : World) (hb1 : Below ((w4.alloc (.cells #[.slice A4x U.es.length n4x, .slice B4x U.ks.length m4x, .slice D4x UC.length k4x] 29))).heap.size (w4.alloc (.cells #[.slice A4x U.es.length n4x, .slice B4x U.ks.length m4x, .slice D4x UC.length k4x] 29)) w1) => Calls.boolEq (cleqK_any ac cc a c _ _ _ _ _ _ _ (Hrt0_1.out _ ((Below.refl _ _).trans (hb1.mono hsz1))) (Hrt2_1.out _ ((Below.refl _ _).trans (hb1.mono hsz1))) (Hrc0_1.out _ ((Below.refl _ _).trans (hb1.mono hsz1))) (Hrc2_1.out _ ((Below.refl _ _).trans (hb1.mono hsz1))) (by omega) (by omega) (by omega) (by omega)) E4.out)
      have HQ1_4 := hid (fun (w1 : World) (hb1 : Below ((w4.alloc (.cells #[.slice A4x U.es.length n4x, .slice B4x U.ks.length m4x, .slice D4x UC.length k4x] 29))).heap.size (w4.alloc (.cells #[.slice A4x U.es.length n4x, .slice B4x U.ks.length m4x, .slice D4x UC.length k4x] 29)) w1) => Calls.boolEq (cleqK_any bc cc b c _ _ _ _ _ _ _ (Hrt1_1.out _ ((Below.refl _ _).trans (hb1.mono hsz1))) (Hrt2_1.out _ ((Below.refl _ _).trans (hb1.mono hsz1))) (Hrc1_1.out _ ((Below.refl _ _).trans (hb1.mono hsz1))) (Hrc2_1.out _ ((Below.refl _ _).trans (hb1.mono hsz1))) (by omega) (by omega) (by omega) (by omega)) E5.out)
      have f_c0_u := far_cell (B := ((w4.alloc (.cells #[.slice A4x U.es.length n4x, .slice B4x U.ks.length m4x, .slice D4x UC.length k4x] 29))).heap.size) c0_u (by first | omega | (simp; done) | (simp; omega))
      have f_c1_u := far_cell (B := ((w4.alloc (.cells #[.slice A4x U.es.length n4x, .slice B4x U.ks.length m4x, .slice D4x UC.length k4x] 29))).heap.size) c1_u (by first | omega | (simp; done) | (simp; omega))
      have f_c2_u := far_cell (B := ((w4.alloc (.cells #[.slice A4x U.es.length n4x, .slice B4x U.ks.length m4x, .slice D4x UC.length k4x] 29))).heap.size) c2_u (by first | omega | (simp; done) | (simp; omega))
      have f_c00 := far_cell (B := ((w4.alloc (.cells #[.slice A4x U.es.length n4x, .slice B4x U.ks.length m4x, .slice D4x UC.length k4x] 29))).heap.size) c00 (by first | omega | (simp; done) | (simp; omega))
      have f_c01 := far_cell (B := ((w4.alloc (.cells #[.slice A4x U.es.length n4x, .slice B4x U.ks.length m4x, .slice D4x UC.length k4x] 29))).heap.size) c01 (by first | omega | (simp; done) | (simp; omega))
      have f_c02 := far_cell (B := ((w4.alloc (.cells #[.slice A4x U.es.length n4x, .slice B4x U.ks.length m4x, .slice D4x UC.length k4x] 29))).heap.size) c02 (by first | omega | (simp; done) | (simp; omega))
      have f_c10 := far_cell (B := ((w4.alloc (.cells #[.slice A4x U.es.length n4x, .slice B4x U.ks.length m4x, .slice D4x UC.length k4x] 29))).heap.size) c10 (by first | omega | (simp; done) | (simp; omega))
      have f_c11 := far_cell (B := ((w4.alloc (.cells #[.slice A4x U.es.length n4x, .slice B4x U.ks.length m4x, .slice D4x UC.length k4x] 29))).heap.size) c11 (by first | omega | (simp; done) | (simp; omega))
      have f_c12 := far_cell (B := ((w4.alloc (.cells #[.slice A4x U.es.length n4x, .slice B4x U.ks.length m4x, .slice D4x UC.length k4x] 29))).heap.size) c12 (by first | omega | (simp; done) | (simp; omega))
      have f_c20 := far_cell (B := ((w4.alloc (.cells #[.slice A4x U.es.length n4x, .slice B4x U.ks.length m4x, .slice D4x UC.length k4x] 29))).heap.size) c20 (by first | omega | (simp; done) | (simp; omega))
      have f_c21 := far_cell (B := ((w4.alloc (.cells #[.slice A4x U.es.length n4x, .slice B4x U.ks.length m4x, .slice D4x UC.length k4x] 29))).heap.size) c21 (by first | omega | (simp; done) | (simp; omega))
      have f_c22 := far_cell (B := ((w4.alloc (.cells #[.slice A4x U.es.length n4x, .slice B4x U.ks.length m4x, .slice D4x UC.length k4x] 29))).heap.size) c22 (by first | omega | (simp; done) | (simp; omega))
      clear hs_u rt_u rc_u c0_u c1_u c2_u hB hs rt0 rc0 rt1 rc1 rt2 rc2 c00 c01 c02 c10 c11 c12 c20 c21 c22
      refine wp_region_far ((w4.alloc (.cells #[.slice A4x U.es.length n4x, .slice B4x U.ks.length m4x, .slice D4x UC.length k4x] 29))).heap.size (by kernel_rfl) (by kernel_rfl) ?_
      repeat (go_big_quiet_step (first | (go_at_call 30; with_reducible exact Calls.far_all (Nat.le_refl _) HQ1_0.out) | (go_at_call 30; with_reducible exact Calls.far_all (Nat.le_refl _) HQ1_1.out) | (go_at_call 30; with_reducible exact Calls.far_all (Nat.le_refl _) HQ1_2.out) | (go_at_call 30; with_reducible exact Calls.far_all (Nat.le_refl _) HQ1_3.out) | (go_at_call 30; with_reducible exact Calls.far_all (Nat.le_refl _) HQ1_4.out)))
      refine wpQuiet_nil ?_
      intro w5 hb
      clear f_c0_u f_c1_u f_c2_u f_c00 f_c01 f_c02 f_c10 f_c11 f_c12 f_c20 f_c21 f_c22
      have hbk5 : Hid (Below (w4.heap.size + 1) (w4.alloc (.cells #[.slice A4x U.es.length n4x, .slice B4x U.ks.length m4x, .slice D4x UC.length k4x] 29)) w5) := hid ((Below.refl _ _).trans (hb.mono hsz1))
      clear hb
      obtain ⟨hs_u, rt_u, rc_u, c0_u, c1_u, c2_u, hB, hs, rt0, rc0, rt1, rc1, rt2, rc2, c00, c01, c02, c10, c11, c12, c20, c21, c22⟩ := HX1.out _ hbk5.out
      go_wp2_with fail
      go_ret
      exact ⟨rfl, hB⟩
end Go.Proofs.YtkjijbogbelilaaGreat
