/- What the laws need, part 1: tributarylaw09.small and right, at one and at two. No condition. cmp.Compare at texts; causal.greater. No condition. causal.entries. No condition but that there are not too many. slices.BinarySearchFunc at kids, causal.kid. No condition but that kids are in order. causal.kid. No condition but that the tree is in order. slices.Grow at no kid, slices.Concat at two lists of kids. No condition but that there are not too many. causal.trees. No condition but that trees are in order, and not too big. causal.join. Condition: both right (trees in order, contexts apart), and not too big. causal.Join. Condition: not too big. tributarylaw09.awake answers true. No condition. The law CausalRight. -/
import Derived.Test.YtdcmjmcipgadlaaGreatSg1
namespace Go.Proofs.YtdcmjmcipgadlaaGreat
open Go.RowKit
set_option maxRecDepth 100000

/-- What one lies as: its tree and its context. -/
def CaE (w : World) (B : Nat) (x : Tr × List Sp) (cs : List Value) : Prop := ∃ ve vk vc, cs = [ve, vk, vc] ∧ x.1.rd w B ve vk ∧ SlP w B 3 SpE vc x.2
set_option maxHeartbeats 2000000 in
theorem small09_any (l : List (Tr × List Sp)) (vl : Value) (w : World) (h : SlP w w.heap.size 3 (CaE w w.heap.size) vl l) :
    Calls Tryz.prog 47 #[vl] w fun e w' => e = .returned (.bool (l.all fun x => sml9 x.1 x.2 40)) ∧ Below w.heap.size w w' := by
  obtain ⟨A, m, rfl, c1, c2, c3⟩ := h
  unfold Big at c2
  go_enter Tryz.func47, Tryz.ntmps47
  go_wp2_with fail
  go_loopw [6] (fun i wr => ∃ k : Nat, k ≤ l.length ∧ i = .int .i64 k ∧ Hid ((l.take k).all (fun x => sml9 x.1 x.2 40) = true) ∧ Below w.heap.size w wr) (fun i _ => l.length - (intOf i).toNat)
  case atStart => exact ⟨0, Nat.zero_le _, rfl, by unfold Hid; simp, Below.refl _ _⟩
  case round =>
    obtain ⟨k, hk, rfl, hall, hb⟩ := hrel
    by_cases hlt : k < l.length
    · obtain ⟨⟨t, c⟩, hx⟩ : ∃ x, l[k]? = some x := ⟨_, List.getElem?_eq_getElem hlt⟩
      obtain ⟨b, off, rfl, hbB, hc⟩ := c3 (by rintro rfl; simp at hlt)
      obtain ⟨cs, ⟨ve, vk, vc, rfl, hrd, hsl⟩, _, hu⟩ := hc k _ hx
      obtain ⟨A3, n3, A4, n4, rfl, rfl⟩ := rd_shape hrd
      obtain ⟨A5, n5, hv5, _⟩ := id hsl
      simp only at hv5 hrd hsl
      subst hv5
      have e0 : wr.cell? ⟨b, off + k * 3, none⟩ = some (.slice A3 t.es.length n3) := (hb.cell hbB).trans (hu 0 _ rfl)
      have e1 : wr.cell? ⟨b, off + k * 3 + 1, none⟩ = some (.slice A4 t.ks.length n4) := (hb.cell hbB).trans (hu 1 _ rfl)
      have e2 : wr.cell? ⟨b, off + k * 3 + 2, none⟩ = some (.slice A5 c.length n5) := (hb.cell hbB).trans (hu 2 _ rfl)
      have HRD := hid (rd_below hb hb.size _ _ _ hrd)
      have HSL : Hid (SlP wr wr.heap.size 3 SpE (.slice A5 c.length n5) c) := hsl.imp hb hb.size fun _ _ _ h => h
      have hmem := List.mem_of_getElem? hx
      have htk : l.take (k + 1) = l.take k ++ [(t, c)] := by rw [List.take_add_one, hx]; rfl
      have HTK := hid htk
      have HME := hid hmem
      clear hu hc c3 hx hrd hsl hmem htk
      go_wp2_with fail
      refine (r09small_any t c 40 _ _ _ wr HRD.out HSL.out (by omega) (by omega)).mono ?_
      cases hs : sml9 t c 40
      · rintro e w1 ⟨rfl, hb1⟩
        have HS := hid hs
        clear hs
        go_wp2_with fail
        go_ret
        exact ⟨ret_bool (List.all_eq_false.2 ⟨_, HME.out, by simp [HS.out]⟩).symm, hb.trans (hb1.mono hb.size)⟩
      · rintro e w1 ⟨rfl, hb1⟩
        have HS := hid hs
        clear hs
        go_wp2_with fail
        go_roundw
        case rel => exact ⟨k + 1, by omega, by go_num, by unfold Hid; rw [HTK.out, List.all_append, hall.out]; simp [HS.out], hb.trans (hb1.mono hb.size)⟩
        case measure => simp [intOf]; omega
    · obtain rfl : k = l.length := by omega
      rw [List.take_of_length_le (Nat.le_refl _)] at hall
      go_wp2_with fail
      go_ret
      exact ⟨ret_bool hall.out.symm, hb⟩
set_option maxHeartbeats 2000000 in
theorem right09_any (l : List (Tr × List Sp)) (vl : Value) (w : World) (h : SlP w w.heap.size 3 (CaE w w.heap.size) vl l) (hN : ∀ x ∈ l, x.1.sz ≤ 4000 ∧ x.2.length ≤ 20000) :
    Calls Tryz.prog 50 #[vl] w fun e w' => e = .returned (.bool (l.all fun x => caR x.1 x.2)) ∧ Below w.heap.size w w' := by
  obtain ⟨A, m, rfl, c1, c2, c3⟩ := h
  unfold Big at c2
  go_enter Tryz.func50, Tryz.ntmps50
  go_wp2_with fail
  go_loopw [6] (fun i wr => ∃ k : Nat, k ≤ l.length ∧ i = .int .i64 k ∧ Hid ((l.take k).all (fun x => caR x.1 x.2) = true) ∧ Below w.heap.size w wr) (fun i _ => l.length - (intOf i).toNat)
  case atStart => exact ⟨0, Nat.zero_le _, rfl, by unfold Hid; simp, Below.refl _ _⟩
  case round =>
    obtain ⟨k, hk, rfl, hall, hb⟩ := hrel
    by_cases hlt : k < l.length
    · obtain ⟨⟨t, c⟩, hx⟩ : ∃ x, l[k]? = some x := ⟨_, List.getElem?_eq_getElem hlt⟩
      obtain ⟨b, off, rfl, hbB, hc⟩ := c3 (by rintro rfl; simp at hlt)
      obtain ⟨cs, ⟨ve, vk, vc, rfl, hrd, hsl⟩, _, hu⟩ := hc k _ hx
      obtain ⟨A3, n3, A4, n4, rfl, rfl⟩ := rd_shape hrd
      obtain ⟨A5, n5, hv5, _⟩ := id hsl
      simp only at hv5 hrd hsl
      subst hv5
      have e0 : wr.cell? ⟨b, off + k * 3, none⟩ = some (.slice A3 t.es.length n3) := (hb.cell hbB).trans (hu 0 _ rfl)
      have e1 : wr.cell? ⟨b, off + k * 3 + 1, none⟩ = some (.slice A4 t.ks.length n4) := (hb.cell hbB).trans (hu 1 _ rfl)
      have e2 : wr.cell? ⟨b, off + k * 3 + 2, none⟩ = some (.slice A5 c.length n5) := (hb.cell hbB).trans (hu 2 _ rfl)
      have HRD := hid (rd_below hb hb.size _ _ _ hrd)
      have HSL : Hid (SlP wr wr.heap.size 3 SpE (.slice A5 c.length n5) c) := hsl.imp hb hb.size fun _ _ _ h => h
      have hmem := List.mem_of_getElem? hx
      have htk : l.take (k + 1) = l.take k ++ [(t, c)] := by rw [List.take_add_one, hx]; rfl
      have HTK := hid htk
      have HME := hid hmem
      have HN := hid (hN _ hmem)
      clear hu hc c3 hx hrd hsl hmem htk
      go_wp2_with fail
      have hr9 : r9R t c = caR t c := (caR_r9 t c).symm
      refine (r09right_any t c _ _ _ wr HRD.out HSL.out HN.out.1 HN.out.2).mono ?_
      rw [hr9]
      clear hr9
      cases hs : caR t c
      · rintro e w1 ⟨rfl, hb1⟩
        have HS := hid hs
        clear hs
        go_wp2_with fail
        go_ret
        exact ⟨ret_bool (List.all_eq_false.2 ⟨_, HME.out, by simp [HS.out]⟩).symm, hb.trans (hb1.mono hb.size)⟩
      · rintro e w1 ⟨rfl, hb1⟩
        have HS := hid hs
        clear hs
        go_wp2_with fail
        go_roundw
        case rel => exact ⟨k + 1, by omega, by go_num, by unfold Hid; rw [HTK.out, List.all_append, hall.out]; simp [HS.out], hb.trans (hb1.mono hb.size)⟩
        case measure => simp [intOf]; omega
    · obtain rfl : k = l.length := by omega
      rw [List.take_of_length_le (Nat.le_refl _)] at hall
      go_wp2_with fail
      go_ret
      exact ⟨ret_bool hall.out.symm, hb⟩
theorem sml9_sz {t : Tr} {c : List Sp} (h : sml9 t c 40 = true) : t.sz ≤ 40 ∧ c.length ≤ 40 := by
  unfold sml9 at h
  rw [Bool.and_eq_true] at h
  have h1 := sml_sz h.1
  have h2 := of_decide_eq_true h.2
  omega
end Go.Proofs.YtdcmjmcipgadlaaGreat

namespace Go.Proofs.YtdcmjmcipgadlaaGreat
open Go.RowKit
set_option maxRecDepth 100000

/-- How two texts compare. -/
def cmpS (a b : ByteArray) : Int := if ltS a b then -1 else if ltS b a then 1 else 0
theorem cmpsS_any (a b : ByteArray) (w : World) : Calls Tryz.prog 182 #[.string a, .string b] w fun e w' => e = .returned (.int .i64 (cmpS a b)) ∧ w = w' := by
  have hgt := ltS_gt b a
  have hE : Hid (cmpS a b = if Op.bytesLess a.toList b.toList then -1 else if ltS b a then 1 else 0) := rfl
  have hN1 : (!(a.toList == a.toList)) = false := by simp
  have hN2 : (!(b.toList == b.toList)) = false := by simp
  go_enter Tryz.func182, Tryz.ntmps182
  rcases g1 : Op.bytesLess a.toList b.toList
  · rcases g2 : (a.toList == b.toList)
    · have g3 : ¬ a.toList = b.toList := by simpa using g2
      have HR : Hid (cmpS a b = 1) := by unfold Hid; rw [hE.out, g1, hgt, g1, g2]; rfl
      clear hgt hE
      go_wp2
      go_ret
      exact ⟨ret_int HR.out.symm, rfl⟩
    · have g3 : a.toList = b.toList := by simpa using g2
      have HR : Hid (cmpS a b = 0) := by unfold Hid; rw [hE.out, g1, hgt, g1, g2]; rfl
      obtain rfl : a = b := (bytes_inj a b).1 g3
      clear hgt hE g3
      go_wp2
      go_ret
      exact ⟨ret_int HR.out.symm, rfl⟩
  · have HR : Hid (cmpS a b = -1) := by unfold Hid; rw [hE.out, g1]; rfl
    clear hgt hE
    go_wp2
    go_ret
    exact ⟨ret_int HR.out.symm, rfl⟩

/-- The greater one of two entries: of number, then of text. -/
def grtE (a b : En) : En := if orI (cmpI a.v b.v) (cmpS a.s b.s) < 0 then b else a

set_option maxHeartbeats 2000000 in
theorem greater_any (a b : En) (w : World) : Calls Tryz.prog 178 #[.agg #[.int .i64 a.dc, .int .i64 a.n, .string a.s, .int .i64 a.v], .agg #[.int .i64 b.dc, .int .i64 b.n, .string b.s, .int .i64 b.v]] w fun e w' => e = .returned (.agg #[.int .i64 (grtE a b).dc, .int .i64 (grtE a b).n, .string (grtE a b).s, .int .i64 (grtE a b).v]) ∧ Below w.heap.size w w' := by
  go_enter Tryz.func178, Tryz.ntmps178
  go_upto_region 1 with (fail)
  go_region_held3 (fun w' => w'.cell? ⟨w.heap.size, 1, none⟩ = some (.int .i64 a.n) ∧ w'.cell? ⟨w.heap.size, 2, none⟩ = some (.string a.s) ∧ w'.cell? ⟨w.heap.size, 3, none⟩ = some (.int .i64 a.v) ∧ w'.cell? ⟨w.heap.size + 1, 2, none⟩ = some (.string b.s) ∧ w'.cell? ⟨w.heap.size + 1, 3, none⟩ = some (.int .i64 b.v)) (go_keep)
    (first | (go_at_call 143; refine (cmp64_any _ _ _).mono ?_; rintro e w' ⟨rfl, rfl⟩) | (go_at_call 182; refine (cmpsS_any _ _ _).mono ?_; rintro e w' ⟨rfl, rfl⟩) | (go_at_call 183; refine (or2_any (cmpI a.v b.v) (cmpS a.s b.s) _ _ (by rw [World.cell?_drew, World.cell?_alloc_at _ _ _ _ (by simp)]; rfl) (by rw [World.cell?_drew, World.cell?_alloc_at _ _ _ _ (by simp)]; rfl)).mono ?_; rintro e w' ⟨rfl, rfl⟩))
  have hB : Below w.heap.size w (((((w.alloc (.cells #[.int .i64 a.dc, .int .i64 a.n, .string a.s, .int .i64 a.v] 56)).alloc (.cells #[.int .i64 b.dc, .int .i64 b.n, .string b.s, .int .i64 b.v] 56)).alloc (.cells #[.int .i64 0, .int .i64 0, .string ⟨#[]⟩, .int .i64 0] 56)).alloc (.cells #[.int .i64 (cmpI a.v b.v), .int .i64 (cmpS a.s b.s)] 3)).drew) := by go_grown
  have g0 : (((((w.alloc (.cells #[.int .i64 a.dc, .int .i64 a.n, .string a.s, .int .i64 a.v] 56)).alloc (.cells #[.int .i64 b.dc, .int .i64 b.n, .string b.s, .int .i64 b.v] 56)).alloc (.cells #[.int .i64 0, .int .i64 0, .string ⟨#[]⟩, .int .i64 0] 56)).alloc (.cells #[.int .i64 (cmpI a.v b.v), .int .i64 (cmpS a.s b.s)] 3)).drew).heap[w.heap.size]? = some (.cells #[.int .i64 a.dc, .int .i64 a.n, .string a.s, .int .i64 a.v] 56 (0, 0)) := (heap_old (by simp <;> omega)).trans ((heap_old (by simp <;> omega)).trans ((heap_old (by simp)).trans (heap_new rfl)))
  have g1 : (((((w.alloc (.cells #[.int .i64 a.dc, .int .i64 a.n, .string a.s, .int .i64 a.v] 56)).alloc (.cells #[.int .i64 b.dc, .int .i64 b.n, .string b.s, .int .i64 b.v] 56)).alloc (.cells #[.int .i64 0, .int .i64 0, .string ⟨#[]⟩, .int .i64 0] 56)).alloc (.cells #[.int .i64 (cmpI a.v b.v), .int .i64 (cmpS a.s b.s)] 3)).drew).heap[w.heap.size + 1]? = some (.cells #[.int .i64 b.dc, .int .i64 b.n, .string b.s, .int .i64 b.v] 56 (0, 0)) := (heap_old (by simp <;> omega)).trans ((heap_old (by simp)).trans (heap_new (by simp)))
  have g2 : (((((w.alloc (.cells #[.int .i64 a.dc, .int .i64 a.n, .string a.s, .int .i64 a.v] 56)).alloc (.cells #[.int .i64 b.dc, .int .i64 b.n, .string b.s, .int .i64 b.v] 56)).alloc (.cells #[.int .i64 0, .int .i64 0, .string ⟨#[]⟩, .int .i64 0] 56)).alloc (.cells #[.int .i64 (cmpI a.v b.v), .int .i64 (cmpS a.s b.s)] 3)).drew).heap[w.heap.size + 2]? = some (.cells #[.int .i64 0, .int .i64 0, .string ⟨#[]⟩, .int .i64 0] 56 (0, 0)) := (heap_old (by simp)).trans (heap_new (by simp))
  have a0 := cell_cells (i := 0) g0
  have a1 := cell_cells (i := 1) g0
  have a2 := cell_cells (i := 2) g0
  have a3 := cell_cells (i := 3) g0
  have b0 := cell_cells (i := 0) g1
  have b1 := cell_cells (i := 1) g1
  have b2 := cell_cells (i := 2) g1
  have b3 := cell_cells (i := 3) g1
  have k0 := cell_cells (i := 0) g2
  have k1 := cell_cells (i := 1) g2
  have k2 := cell_cells (i := 2) g2
  have k3 := cell_cells (i := 3) g2
  have z0 := cells_frz (i := 0) g2
  have z1 := cells_frz (i := 1) g2
  have z2 := cells_frz (i := 2) g2
  have z3 := cells_frz (i := 3) g2
  have HG := hid g2
  clear g0 g1 g2
  simp only [List.getElem?_toArray, List.getElem?_cons_zero, List.getElem?_cons_succ] at a0 a1 a2 a3 b0 b1 b2 b3 k0 k1 k2 k3
  generalize ((((w.alloc (.cells #[.int .i64 a.dc, .int .i64 a.n, .string a.s, .int .i64 a.v] 56)).alloc (.cells #[.int .i64 b.dc, .int .i64 b.n, .string b.s, .int .i64 b.v] 56)).alloc (.cells #[.int .i64 0, .int .i64 0, .string ⟨#[]⟩, .int .i64 0] 56)).alloc (.cells #[.int .i64 (cmpI a.v b.v), .int .i64 (cmpS a.s b.s)] 3)).drew = W at *
  have HGR : Hid (grtE a b = if orI (cmpI a.v b.v) (cmpS a.s b.s) < 0 then b else a) := rfl
  rcases hc : decide (orI (cmpI a.v b.v) (cmpS a.s b.s) < 0)
  · have HE : Hid (grtE a b = a) := by unfold Hid; rw [HGR.out, if_neg (of_decide_eq_false hc)]
    go_wp2_with fail
    have hW4 := cells_set (i := 3) (cells_set (i := 2) (cells_set (i := 1) (cells_set (i := 0) HG.out (.int .i64 a.dc)) (.int .i64 a.n)) (.string a.s)) (.int .i64 a.v)
    have r0 := (cell_cells (i := 0) hW4).trans (show _ = some (.int .i64 a.dc) by simp)
    have r1 := (cell_cells (i := 1) hW4).trans (show _ = some (.int .i64 a.n) by simp)
    have r2 := (cell_cells (i := 2) hW4).trans (show _ = some (.string a.s) by simp)
    have r3 := (cell_cells (i := 3) hW4).trans (show _ = some (.int .i64 a.v) by simp)
    refine bodyPost_ret (v := .agg #[.int .i64 a.dc, .int .i64 a.n, .string a.s, .int .i64 a.v]) (by simp [results, Tryz.results178, go_sem, r0, r1, r2, r3]) rfl ⟨by rw [HE.out], (((hB.setCell (by simp <;> omega) _).setCell (by simp <;> omega) _).setCell (by simp <;> omega) _).setCell (by simp <;> omega) _⟩
  · have HE : Hid (grtE a b = b) := by unfold Hid; rw [HGR.out, if_pos (of_decide_eq_true hc)]
    go_wp2_with fail
    have hW4 := cells_set (i := 3) (cells_set (i := 2) (cells_set (i := 1) (cells_set (i := 0) HG.out (.int .i64 b.dc)) (.int .i64 b.n)) (.string b.s)) (.int .i64 b.v)
    have r0 := (cell_cells (i := 0) hW4).trans (show _ = some (.int .i64 b.dc) by simp)
    have r1 := (cell_cells (i := 1) hW4).trans (show _ = some (.int .i64 b.n) by simp)
    have r2 := (cell_cells (i := 2) hW4).trans (show _ = some (.string b.s) by simp)
    have r3 := (cell_cells (i := 3) hW4).trans (show _ = some (.int .i64 b.v) by simp)
    refine bodyPost_ret (v := .agg #[.int .i64 b.dc, .int .i64 b.n, .string b.s, .int .i64 b.v]) (by simp [results, Tryz.results178, go_sem, r0, r1, r2, r3]) rfl ⟨by rw [HE.out], (((hB.setCell (by simp <;> omega) _).setCell (by simp <;> omega) _).setCell (by simp <;> omega) _).setCell (by simp <;> omega) _⟩
end Go.Proofs.YtdcmjmcipgadlaaGreat

namespace Go.Proofs.YtdcmjmcipgadlaaGreat
open Go.RowKit
set_option maxRecDepth 100000

/-- What of an entry stays that one alone has. -/
def stayL (c : List Sp) (x : En) : List En := if cHas c x.dot then [] else [x]
/-- Two lists of entries joined. -/
def entL (ca cb : List Sp) : List En → List En → List En
  | [], [] => []
  | x :: a, [] => stayL cb x ++ entL ca cb a []
  | [], y :: b => stayL ca y ++ entL ca cb [] b
  | x :: a, y :: b => if x.dot.lt y.dot then stayL cb x ++ entL ca cb a (y :: b) else if y.dot.lt x.dot then stayL ca y ++ entL ca cb (x :: a) b else grtE x y :: entL ca cb a b
termination_by a b => a.length + b.length
theorem stayL_len (c : List Sp) (x : En) : (stayL c x).length ≤ 1 := by unfold stayL; split <;> simp
theorem entL_len (ca cb : List Sp) : ∀ (n : Nat) (a b : List En), a.length + b.length ≤ n → (entL ca cb a b).length ≤ a.length + b.length
  | n, [], [], _ => by rw [entL]; simp
  | 0, x :: a, _, h => by simp at h
  | 0, [], y :: b, h => by simp at h
  | n + 1, x :: a, [], h => by
    have h1 := stayL_len cb x
    have h2 := entL_len ca cb n a [] (by simp at h ⊢; omega)
    rw [entL, List.length_append]; simp at h2 ⊢; omega
  | n + 1, [], y :: b, h => by
    have h1 := stayL_len ca y
    have h2 := entL_len ca cb n [] b (by simp at h ⊢; omega)
    rw [entL, List.length_append]; simp at h2 ⊢; omega
  | n + 1, x :: a, y :: b, h => by
    have h1 := stayL_len cb x
    have h2 := stayL_len ca y
    have h3 := entL_len ca cb n a (y :: b) (by simp at h ⊢; omega)
    have h4 := entL_len ca cb n (x :: a) b (by simp at h ⊢; omega)
    have h5 := entL_len ca cb n a b (by simp at h ⊢; omega)
    rw [entL]
    split
    · rw [List.length_append]; simp at h3 ⊢; omega
    · split
      · rw [List.length_append]; simp at h4 ⊢; omega
      · simp at h5 ⊢; omega
theorem cmp_lt' (a b : Dt) : decide (a.cmp b < 0) = a.lt b := by
  rw [← Bool.not_not (a.lt b), ← cmp_lt, Bool.eq_iff_iff]
  simp
set_option maxHeartbeats 4000000 in
theorem centries_any (a b : List En) (ca cb : List Sp) (va vb vca vcb : Value) (w : World) (ha : SlP w w.heap.size 4 EnE va a) (hb : SlP w w.heap.size 4 EnE vb b) (hca : SlP w w.heap.size 3 SpE vca ca) (hcb : SlP w w.heap.size 3 SpE vcb cb) (hN : a.length + b.length ≤ 900000) (hN1 : ca.length ≤ 900000) (hN2 : cb.length ≤ 900000) :
    Calls Tryz.prog 153 #[va, vb, vca, vcb] w (RetO w 56 4 (fun _ => EnE) (entL ca cb a b)) := by
  have HCA : Hid (∀ w', Below w.heap.size w w' → SlP w' w'.heap.size 3 SpE vca ca) := fun w' hb => hca.imp hb hb.size fun _ _ _ h => h
  have HCB : Hid (∀ w', Below w.heap.size w w' → SlP w' w'.heap.size 3 SpE vcb cb) := fun w' hb => hcb.imp hb hb.size fun _ _ _ h => h
  obtain ⟨A1, m1, rfl, a1, a2, a3⟩ := ha
  obtain ⟨A2, m2, rfl, b1, b2, b3⟩ := hb
  obtain ⟨A3, m3, rfl, _, _, _⟩ := hca
  obtain ⟨A4, m4, rfl, _, _, _⟩ := hcb
  unfold Big at a2 b2
  go_enter Tryz.func153, Tryz.ntmps153
  go_wp2_with fail
  go_loopw [9, 10, 11] (fun v i k wr => ∃ (out : List En) (p q : Nat), OwnP wr w.heap.size 56 4 EnE v out ∧ i = .int .i64 p ∧ k = .int .i64 q ∧ p ≤ a.length ∧ q ≤ b.length ∧ Hid (out ++ entL ca cb (a.drop p) (b.drop q) = entL ca cb a b) ∧ out.length ≤ p + q ∧ Below w.heap.size w wr) (fun _ i k _ => a.length - (intOf i).toNat + (b.length - (intOf k).toNat))
  case atStart => exact ⟨[], 0, 0, OwnP.nil, rfl, rfl, Nat.zero_le _, Nat.zero_le _, by unfold Hid; simp, by simp, Below.refl _ _⟩
  case round =>
    obtain ⟨out, p, q, hown, rfl, rfl, hp, hq, hrel, hol, hBwr⟩ := hrel
    have hOwr := hid hown
    clear hown
    by_cases hlp : p < a.length
    · obtain ⟨x, hx⟩ : ∃ x, a[p]? = some x := ⟨_, List.getElem?_eq_getElem hlp⟩
      obtain ⟨ba, oa, rfl, hba, hca'⟩ := a3 (by rintro rfl; simp at hlp)
      obtain ⟨cs, ⟨rfl, hokx⟩, _, hu⟩ := hca' p _ hx
      have HXC : Hid (∀ w', Below w.heap.size w w' → w'.cell? ⟨ba, oa + p * 4, none⟩ = some (.int .i64 x.dc) ∧ w'.cell? ⟨ba, oa + p * 4 + 1, none⟩ = some (.int .i64 x.n) ∧ w'.cell? ⟨ba, oa + p * 4 + 2, none⟩ = some (.string x.s) ∧ w'.cell? ⟨ba, oa + p * 4 + 3, none⟩ = some (.int .i64 x.v)) := fun w' hb' =>
        ⟨(hb'.cell hba).trans (hu 0 _ rfl), (hb'.cell hba).trans (hu 1 _ rfl), (hb'.cell hba).trans (hu 2 _ rfl), (hb'.cell hba).trans (hu 3 _ rfl)⟩
      have HXE : Hid (EnE x [.int .i64 x.dc, .int .i64 x.n, .string x.s, .int .i64 x.v]) := ⟨rfl, hokx⟩
      have HPX := hid (drop_cons hx)
      have t1 : decide ((p : Int) < (a.length : Int)) = true := by simp; omega
      have t2 : ((p : Int) == (a.length : Int)) = false := by simp; omega
      clear hu hca' hx a3 hokx
      by_cases hlq : q < b.length
      · obtain ⟨y, hy⟩ : ∃ y, b[q]? = some y := ⟨_, List.getElem?_eq_getElem hlq⟩
        obtain ⟨bb, ob, rfl, hbb, hcb'⟩ := b3 (by rintro rfl; simp at hlq)
        obtain ⟨cs, ⟨rfl, hoky⟩, _, hu⟩ := hcb' q _ hy
        have HYC : Hid (∀ w', Below w.heap.size w w' → w'.cell? ⟨bb, ob + q * 4, none⟩ = some (.int .i64 y.dc) ∧ w'.cell? ⟨bb, ob + q * 4 + 1, none⟩ = some (.int .i64 y.n) ∧ w'.cell? ⟨bb, ob + q * 4 + 2, none⟩ = some (.string y.s) ∧ w'.cell? ⟨bb, ob + q * 4 + 3, none⟩ = some (.int .i64 y.v)) := fun w' hb' =>
          ⟨(hb'.cell hbb).trans (hu 0 _ rfl), (hb'.cell hbb).trans (hu 1 _ rfl), (hb'.cell hbb).trans (hu 2 _ rfl), (hb'.cell hbb).trans (hu 3 _ rfl)⟩
        have HYE : Hid (EnE y [.int .i64 y.dc, .int .i64 y.n, .string y.s, .int .i64 y.v]) := ⟨rfl, hoky⟩
        have HPY := hid (drop_cons hy)
        have t3 : decide ((q : Int) < (b.length : Int)) = true := by simp; omega
        have t4 : ((q : Int) == (b.length : Int)) = false := by simp; omega
        clear hu hcb' hy b3 hoky
        obtain ⟨x0, x1, _, _⟩ := HXC.out wr hBwr
        have fx0 := far_cell (B := wr.heap.size) x0 (by have := hBwr.size; omega)
        have fx1 := far_cell (B := wr.heap.size) x1 (by have := hBwr.size; omega)
        clear x0 x1
        obtain ⟨y0, y1, _, _⟩ := HYC.out wr hBwr
        have fy0 := far_cell (B := wr.heap.size) y0 (by have := hBwr.size; omega)
        have fy1 := far_cell (B := wr.heap.size) y1 (by have := hBwr.size; omega)
        clear y0 y1
        have hE : entL ca cb (x :: a.drop (p + 1)) (y :: b.drop (q + 1)) = if x.dot.lt y.dot then stayL cb x ++ entL ca cb (a.drop (p + 1)) (y :: b.drop (q + 1)) else if y.dot.lt x.dot then stayL ca y ++ entL ca cb (x :: a.drop (p + 1)) (b.drop (q + 1)) else grtE x y :: entL ca cb (a.drop (p + 1)) (b.drop (q + 1)) := by rw [entL]
        have c1 : decide (Dt.cmp ⟨x.dc, x.n⟩ ⟨y.dc, y.n⟩ < 0) = x.dot.lt y.dot := cmp_lt' _ _
        have c2 : decide (Dt.cmp ⟨y.dc, y.n⟩ ⟨x.dc, x.n⟩ < 0) = y.dot.lt x.dot := cmp_lt' _ _
        rcases hl1 : x.dot.lt y.dot
        · rw [hl1] at c1 hE
          rcases hl2 : y.dot.lt x.dot
          · rw [hl2] at c2 hE
            have HREL : Hid (out ++ (grtE x y :: entL ca cb (a.drop (p + 1)) (b.drop (q + 1))) = entL ca cb a b) := by
              have h1 := hrel.out; rw [HPX.out, HPY.out, hE] at h1; exact h1
            clear hE hl1 hl2 hrel
            go_upto_region 7 with (fail)
            refine wp_region_far wr.heap.size (by kernel_rfl) (by kernel_rfl) ?_
            repeat (go_big_quiet_step ((go_at_call 159; exact Calls.far_of (Nat.le_refl _) (dcmp_any ⟨_, _⟩ ⟨_, _⟩ _))))
            refine wpQuiet_nil ?_
            intro wp hbwp
            have hBwp : Below w.heap.size w wp := hBwr.trans (hbwp.mono (by have := hBwr.size; omega))
            have hOwp := hid (hOwr.out.grow hbwp)
            clear hbwp
            go_wp2_with fail
            clear fx0 fx1 fy0 fy1
            obtain ⟨x0, x1, _, _⟩ := HXC.out wp hBwp
            have fx0 := far_cell (B := wp.heap.size) x0 (by have := hBwp.size; omega)
            have fx1 := far_cell (B := wp.heap.size) x1 (by have := hBwp.size; omega)
            clear x0 x1
            obtain ⟨y0, y1, _, _⟩ := HYC.out wp hBwp
            have fy0 := far_cell (B := wp.heap.size) y0 (by have := hBwp.size; omega)
            have fy1 := far_cell (B := wp.heap.size) y1 (by have := hBwp.size; omega)
            clear y0 y1
            go_upto_region 11 with (fail)
            refine wp_region_far wp.heap.size (by kernel_rfl) (by kernel_rfl) ?_
            repeat (go_big_quiet_step ((go_at_call 159; exact Calls.far_of (Nat.le_refl _) (dcmp_any ⟨_, _⟩ ⟨_, _⟩ _))))
            refine wpQuiet_nil ?_
            intro wq hbwq
            have hBwq : Below w.heap.size w wq := hBwp.trans (hbwq.mono (by have := hBwp.size; omega))
            have hOwq := hid (hOwp.out.grow hbwq)
            clear hbwq
            go_wp2_with fail
            clear fx0 fx1 fy0 fy1
            obtain ⟨z, hz⟩ : ∃ z, z = grtE x y := ⟨_, rfl⟩
            have HZQ := hid hz
            have HZE : Hid (EnE z [.int .i64 z.dc, .int .i64 z.n, .string z.s, .int .i64 z.v]) := by
              rw [hz]; unfold grtE; split
              · exact HYE.out
              · exact HXE.out
            have HXY : Hid (∀ w', Below w.heap.size w w' → w'.cell? ⟨ba, oa + p * 4, none⟩ = some (.int .i64 x.dc) ∧ w'.cell? ⟨ba, oa + p * 4 + 1, none⟩ = some (.int .i64 x.n) ∧ w'.cell? ⟨ba, oa + p * 4 + 2, none⟩ = some (.string x.s) ∧ w'.cell? ⟨ba, oa + p * 4 + 3, none⟩ = some (.int .i64 x.v) ∧ w'.cell? ⟨bb, ob + q * 4, none⟩ = some (.int .i64 y.dc) ∧ w'.cell? ⟨bb, ob + q * 4 + 1, none⟩ = some (.int .i64 y.n) ∧ w'.cell? ⟨bb, ob + q * 4 + 2, none⟩ = some (.string y.s) ∧ w'.cell? ⟨bb, ob + q * 4 + 3, none⟩ = some (.int .i64 y.v)) := fun w' hb' => by
              obtain ⟨x0, x1, x2, x3⟩ := HXC.out w' hb'
              obtain ⟨y0, y1, y2, y3⟩ := HYC.out w' hb'
              exact ⟨x0, x1, x2, x3, y0, y1, y2, y3⟩
            have HL : Hid (out.length + [z].length ≤ Few) := by unfold Hid Few; simp; omega
            have HRX : Hid (out ++ [z] ++ entL ca cb (a.drop (p + 1)) (b.drop (q + 1)) = entL ca cb a b) := by
              unfold Hid; rw [← HREL.out, hz, List.append_assoc]; rfl
            have hsq := hBwq.size
            obtain ⟨x0, x1, x2, x3⟩ := HXC.out wq hBwq
            obtain ⟨y0, y1, y2, y3⟩ := HYC.out wq hBwq
            clear hz HREL
            go_upto_region 4 with (fail)
            go_region_held3 (fun w' => w'.cell? ⟨ba, oa + p * 4, none⟩ = some (.int .i64 x.dc) ∧ w'.cell? ⟨ba, oa + p * 4 + 1, none⟩ = some (.int .i64 x.n) ∧ w'.cell? ⟨ba, oa + p * 4 + 2, none⟩ = some (.string x.s) ∧ w'.cell? ⟨ba, oa + p * 4 + 3, none⟩ = some (.int .i64 x.v) ∧ w'.cell? ⟨bb, ob + q * 4, none⟩ = some (.int .i64 y.dc) ∧ w'.cell? ⟨bb, ob + q * 4 + 1, none⟩ = some (.int .i64 y.n) ∧ w'.cell? ⟨bb, ob + q * 4 + 2, none⟩ = some (.string y.s) ∧ w'.cell? ⟨bb, ob + q * 4 + 3, none⟩ = some (.int .i64 y.v))
              (first | go_keep | exact HXY.out _ hB2 | exact HXY.out _ hB1)
              (first | (go_at_call 178; go_loud ((refine (greater_any x y _).mono ?_); rw [← HZQ.out]; rintro e w1 ⟨rfl, hb⟩; have hb1 : Below wq.heap.size wq w1 := (Below.trans (by go_grown) (hb.mono (by simp))); have hB1 : Below w.heap.size w w1 := hBwq.trans (hb1.mono hsq); have hown1 := hOwq.out.grow hb1))
                     | (go_loud (refine step_few rfl (.tmp 22) (.tmp 32) _ rfl eiEntry (by decide) (by decide) (fun _ _ h => h.one) rfl (hown1.alloc _) rfl (SlP.one (x := z) HZE.out rfl _ rfl) HL.out (by rw [World.size_alloc]; have := hB1.size; omega) ?_); intro v2 w2 hown2 hb2 hg2; have hB2 : Below w.heap.size w w2 := (hB1.alloc hB1.size _).trans hb2))
            all_goals
              go_wp2_with fail
              go_roundw
              case rel => exact ⟨out ++ [z], p + 1, q + 1, hown2, by go_num, by go_num, by omega, by omega, HRX.out, by simp; omega, hB2⟩
              case measure => simp [intOf]; omega
          · rw [hl2] at c2 hE
            have HREL : Hid (out ++ (stayL ca y ++ entL ca cb (a.drop p) (b.drop (q + 1))) = entL ca cb a b) := by
              have h1 := hrel.out; rw [HPX.out, HPY.out, hE] at h1; rw [HPX.out]; exact h1
            clear hE hl1 hl2 hrel
            go_upto_region 7 with (fail)
            refine wp_region_far wr.heap.size (by kernel_rfl) (by kernel_rfl) ?_
            repeat (go_big_quiet_step ((go_at_call 159; exact Calls.far_of (Nat.le_refl _) (dcmp_any ⟨_, _⟩ ⟨_, _⟩ _))))
            refine wpQuiet_nil ?_
            intro wp hbwp
            have hBwp : Below w.heap.size w wp := hBwr.trans (hbwp.mono (by have := hBwr.size; omega))
            have hOwp := hid (hOwr.out.grow hbwp)
            clear hbwp
            go_wp2_with fail
            clear fx0 fx1 fy0 fy1
            obtain ⟨x0, x1, _, _⟩ := HXC.out wp hBwp
            have fx0 := far_cell (B := wp.heap.size) x0 (by have := hBwp.size; omega)
            have fx1 := far_cell (B := wp.heap.size) x1 (by have := hBwp.size; omega)
            clear x0 x1
            obtain ⟨y0, y1, _, _⟩ := HYC.out wp hBwp
            have fy0 := far_cell (B := wp.heap.size) y0 (by have := hBwp.size; omega)
            have fy1 := far_cell (B := wp.heap.size) y1 (by have := hBwp.size; omega)
            clear y0 y1
            go_upto_region 11 with (fail)
            refine wp_region_far wp.heap.size (by kernel_rfl) (by kernel_rfl) ?_
            repeat (go_big_quiet_step ((go_at_call 159; exact Calls.far_of (Nat.le_refl _) (dcmp_any ⟨_, _⟩ ⟨_, _⟩ _))))
            refine wpQuiet_nil ?_
            intro wq hbwq
            have hBwq : Below w.heap.size w wq := hBwp.trans (hbwq.mono (by have := hBwp.size; omega))
            have hOwq := hid (hOwp.out.grow hbwq)
            clear hbwq
            clear fx0 fx1 fy0 fy1
            obtain ⟨y0, y1, y2, y3⟩ := HYC.out wq hBwq
            go_wp2_with fail
            refine (chas_any ca ⟨y.dc, y.n⟩ _ _ (HCA.out _ hBwq) hN1).mono ?_
            rintro e w1 ⟨rfl, hb1⟩
            have hBw1 : Below w.heap.size w w1 := hBwq.trans (hb1.mono (by have := hBwq.size; omega))
            have hown1 := hOwq.out.grow hb1
            clear y0 y1 y2 y3 hb1
            obtain ⟨y0, y1, y2, y3⟩ := HYC.out w1 hBw1
            cases hh : cHas ca ⟨y.dc, y.n⟩
            · have HRX : Hid (out ++ [y] ++ entL ca cb (a.drop p) (b.drop (q + 1)) = entL ca cb a b) := by
                have h1 := HREL.out; rw [show stayL ca y = [y] by (unfold stayL; rw [show cHas ca y.dot = false from hh]; rfl)] at h1
                unfold Hid; rw [← h1, List.append_assoc]
              have HL : Hid (out.length + [y].length ≤ Few) := by unfold Hid Few; simp; omega
              clear hh
              go_wp2_with (at_builtin; go_loud ((with_reducible refine wpList_few rfl (.tmp 107) (.tmp 112) _ rfl eiEntry (by decide) (by decide) (fun _ _ h => h.one) rfl (hown1.alloc _) rfl (SlP.one (x := y) HYE.out rfl _ rfl) HL.out (by rw [World.size_alloc]; have := hBw1.size; omega) ?_); intro v1 w2 hown2 hb2 _))
              go_roundw
              case rel => exact ⟨out ++ [y], p, q + 1, hown2, rfl, by go_num, hp, by omega, HRX.out, by simp; omega, (hBw1.alloc hBw1.size _).trans hb2⟩
              case measure => simp [intOf]; omega
            · have HRX : Hid (out ++ entL ca cb (a.drop p) (b.drop (q + 1)) = entL ca cb a b) := by
                have h1 := HREL.out; rw [show stayL ca y = [] by (unfold stayL; rw [show cHas ca y.dot = true from hh]; rfl), List.nil_append] at h1
                exact h1
              clear hh
              go_wp2_with fail
              go_roundw
              case rel => exact ⟨out, p, q + 1, hown1, rfl, by go_num, hp, by omega, HRX.out, by omega, hBw1⟩
              case measure => simp [intOf]; omega
        · rw [hl1] at c1 hE
          have HREL : Hid (out ++ (stayL cb x ++ entL ca cb (a.drop (p + 1)) (b.drop q)) = entL ca cb a b) := by
            have h1 := hrel.out; rw [HPX.out, HPY.out, hE] at h1; rw [HPY.out]; exact h1
          clear hE hl1 hrel c2
          go_upto_region 7 with (fail)
          refine wp_region_far wr.heap.size (by kernel_rfl) (by kernel_rfl) ?_
          repeat (go_big_quiet_step ((go_at_call 159; exact Calls.far_of (Nat.le_refl _) (dcmp_any ⟨_, _⟩ ⟨_, _⟩ _))))
          refine wpQuiet_nil ?_
          intro wp hbwp
          have hBwp : Below w.heap.size w wp := hBwr.trans (hbwp.mono (by have := hBwr.size; omega))
          have hOwp := hid (hOwr.out.grow hbwp)
          clear hbwp
          clear fx0 fx1 fy0 fy1
          obtain ⟨x0, x1, x2, x3⟩ := HXC.out wp hBwp
          go_wp2_with fail
          refine (chas_any cb ⟨x.dc, x.n⟩ _ _ (HCB.out _ hBwp) hN2).mono ?_
          rintro e w1 ⟨rfl, hb1⟩
          have hBw1 : Below w.heap.size w w1 := hBwp.trans (hb1.mono (by have := hBwp.size; omega))
          have hown1 := hOwp.out.grow hb1
          clear x0 x1 x2 x3 hb1
          obtain ⟨x0, x1, x2, x3⟩ := HXC.out w1 hBw1
          cases hh : cHas cb ⟨x.dc, x.n⟩
          · have HRX : Hid (out ++ [x] ++ entL ca cb (a.drop (p + 1)) (b.drop q) = entL ca cb a b) := by
              have h1 := HREL.out; rw [show stayL cb x = [x] by (unfold stayL; rw [show cHas cb x.dot = false from hh]; rfl)] at h1
              unfold Hid; rw [← h1, List.append_assoc]
            have HL : Hid (out.length + [x].length ≤ Few) := by unfold Hid Few; simp; omega
            clear hh
            go_wp2_with (at_builtin; go_loud ((with_reducible refine wpList_few rfl (.tmp 71) (.tmp 76) _ rfl eiEntry (by decide) (by decide) (fun _ _ h => h.one) rfl (hown1.alloc _) rfl (SlP.one (x := x) HXE.out rfl _ rfl) HL.out (by rw [World.size_alloc]; have := hBw1.size; omega) ?_); intro v1 w2 hown2 hb2 _))
            go_roundw
            case rel => exact ⟨out ++ [x], p + 1, q, hown2, by go_num, rfl, by omega, hq, HRX.out, by simp; omega, (hBw1.alloc hBw1.size _).trans hb2⟩
            case measure => simp [intOf]; omega
          · have HRX : Hid (out ++ entL ca cb (a.drop (p + 1)) (b.drop q) = entL ca cb a b) := by
              have h1 := HREL.out; rw [show stayL cb x = [] by (unfold stayL; rw [show cHas cb x.dot = true from hh]; rfl), List.nil_append] at h1
              exact h1
            clear hh
            go_wp2_with fail
            go_roundw
            case rel => exact ⟨out, p + 1, q, hown1, by go_num, rfl, by omega, hq, HRX.out, by omega, hBw1⟩
            case measure => simp [intOf]; omega
      · have hqe : q = b.length := by omega
        have HREL : Hid (out ++ (stayL cb x ++ entL ca cb (a.drop (p + 1)) (b.drop q)) = entL ca cb a b) := by
          have h1 := hrel.out; rw [HPX.out, hqe, List.drop_of_length_le (Nat.le_refl _), entL] at h1; rw [hqe, List.drop_of_length_le (Nat.le_refl _)]; exact h1
        have t3 : decide ((q : Int) < (b.length : Int)) = false := by simp; omega
        have t4 : ((q : Int) == (b.length : Int)) = true := by simp; omega
        clear hrel hqe b3
        go_upto_region 7 with (fail)
        refine wp_region_far wr.heap.size (by kernel_rfl) (by kernel_rfl) ?_
        repeat (go_big_quiet_step ((go_at_call 159; exact Calls.far_of (Nat.le_refl _) (dcmp_any ⟨_, _⟩ ⟨_, _⟩ _))))
        refine wpQuiet_nil ?_
        intro wp hbwp
        have hBwp : Below w.heap.size w wp := hBwr.trans (hbwp.mono (by have := hBwr.size; omega))
        have hOwp := hid (hOwr.out.grow hbwp)
        clear hbwp
        obtain ⟨x0, x1, x2, x3⟩ := HXC.out wp hBwp
        go_wp2_with fail
        refine (chas_any cb ⟨x.dc, x.n⟩ _ _ (HCB.out _ hBwp) hN2).mono ?_
        rintro e w1 ⟨rfl, hb1⟩
        have hBw1 : Below w.heap.size w w1 := hBwp.trans (hb1.mono (by have := hBwp.size; omega))
        have hown1 := hOwp.out.grow hb1
        clear x0 x1 x2 x3 hb1
        obtain ⟨x0, x1, x2, x3⟩ := HXC.out w1 hBw1
        cases hh : cHas cb ⟨x.dc, x.n⟩
        · have HRX : Hid (out ++ [x] ++ entL ca cb (a.drop (p + 1)) (b.drop q) = entL ca cb a b) := by
            have h1 := HREL.out; rw [show stayL cb x = [x] by (unfold stayL; rw [show cHas cb x.dot = false from hh]; rfl)] at h1
            unfold Hid; rw [← h1, List.append_assoc]
          have HL : Hid (out.length + [x].length ≤ Few) := by unfold Hid Few; simp; omega
          clear hh
          go_wp2_with (at_builtin; go_loud ((with_reducible refine wpList_few rfl (.tmp 71) (.tmp 76) _ rfl eiEntry (by decide) (by decide) (fun _ _ h => h.one) rfl (hown1.alloc _) rfl (SlP.one (x := x) HXE.out rfl _ rfl) HL.out (by rw [World.size_alloc]; have := hBw1.size; omega) ?_); intro v1 w2 hown2 hb2 _))
          go_roundw
          case rel => exact ⟨out ++ [x], p + 1, q, hown2, by go_num, rfl, by omega, hq, HRX.out, by simp; omega, (hBw1.alloc hBw1.size _).trans hb2⟩
          case measure => simp [intOf]; omega
        · have HRX : Hid (out ++ entL ca cb (a.drop (p + 1)) (b.drop q) = entL ca cb a b) := by
            have h1 := HREL.out; rw [show stayL cb x = [] by (unfold stayL; rw [show cHas cb x.dot = true from hh]; rfl), List.nil_append] at h1
            exact h1
          clear hh
          go_wp2_with fail
          go_roundw
          case rel => exact ⟨out, p + 1, q, hown1, by go_num, rfl, by omega, hq, HRX.out, by omega, hBw1⟩
          case measure => simp [intOf]; omega
    · have hpe : p = a.length := by omega
      have t1 : decide ((p : Int) < (a.length : Int)) = false := by simp; omega
      have t2 : ((p : Int) == (a.length : Int)) = true := by simp; omega
      by_cases hlq : q < b.length
      · obtain ⟨y, hy⟩ : ∃ y, b[q]? = some y := ⟨_, List.getElem?_eq_getElem hlq⟩
        obtain ⟨bb, ob, rfl, hbb, hcb'⟩ := b3 (by rintro rfl; simp at hlq)
        obtain ⟨cs, ⟨rfl, hoky⟩, _, hu⟩ := hcb' q _ hy
        have HYC : Hid (∀ w', Below w.heap.size w w' → w'.cell? ⟨bb, ob + q * 4, none⟩ = some (.int .i64 y.dc) ∧ w'.cell? ⟨bb, ob + q * 4 + 1, none⟩ = some (.int .i64 y.n) ∧ w'.cell? ⟨bb, ob + q * 4 + 2, none⟩ = some (.string y.s) ∧ w'.cell? ⟨bb, ob + q * 4 + 3, none⟩ = some (.int .i64 y.v)) := fun w' hb' =>
          ⟨(hb'.cell hbb).trans (hu 0 _ rfl), (hb'.cell hbb).trans (hu 1 _ rfl), (hb'.cell hbb).trans (hu 2 _ rfl), (hb'.cell hbb).trans (hu 3 _ rfl)⟩
        have HYE : Hid (EnE y [.int .i64 y.dc, .int .i64 y.n, .string y.s, .int .i64 y.v]) := ⟨rfl, hoky⟩
        have HPY := hid (drop_cons hy)
        have t3 : decide ((q : Int) < (b.length : Int)) = true := by simp; omega
        have t4 : ((q : Int) == (b.length : Int)) = false := by simp; omega
        have HREL : Hid (out ++ (stayL ca y ++ entL ca cb (a.drop p) (b.drop (q + 1))) = entL ca cb a b) := by
          have h1 := hrel.out; rw [HPY.out, hpe, List.drop_of_length_le (Nat.le_refl _), entL] at h1; rw [hpe, List.drop_of_length_le (Nat.le_refl _)]; exact h1
        clear hu hcb' hy b3 a3 hoky hrel hpe
        go_upto_region 7 with (fail)
        refine wp_region_far wr.heap.size (by kernel_rfl) (by kernel_rfl) ?_
        repeat (go_big_quiet_step ((go_at_call 159; exact Calls.far_of (Nat.le_refl _) (dcmp_any ⟨_, _⟩ ⟨_, _⟩ _))))
        refine wpQuiet_nil ?_
        intro wp hbwp
        have hBwp : Below w.heap.size w wp := hBwr.trans (hbwp.mono (by have := hBwr.size; omega))
        have hOwp := hid (hOwr.out.grow hbwp)
        clear hbwp
        go_wp2_with fail
        go_upto_region 11 with (fail)
        refine wp_region_far wp.heap.size (by kernel_rfl) (by kernel_rfl) ?_
        repeat (go_big_quiet_step ((go_at_call 159; exact Calls.far_of (Nat.le_refl _) (dcmp_any ⟨_, _⟩ ⟨_, _⟩ _))))
        refine wpQuiet_nil ?_
        intro wq hbwq
        have hBwq : Below w.heap.size w wq := hBwp.trans (hbwq.mono (by have := hBwp.size; omega))
        have hOwq := hid (hOwp.out.grow hbwq)
        clear hbwq
        obtain ⟨y0, y1, y2, y3⟩ := HYC.out wq hBwq
        go_wp2_with fail
        refine (chas_any ca ⟨y.dc, y.n⟩ _ _ (HCA.out _ hBwq) hN1).mono ?_
        rintro e w1 ⟨rfl, hb1⟩
        have hBw1 : Below w.heap.size w w1 := hBwq.trans (hb1.mono (by have := hBwq.size; omega))
        have hown1 := hOwq.out.grow hb1
        clear y0 y1 y2 y3 hb1
        obtain ⟨y0, y1, y2, y3⟩ := HYC.out w1 hBw1
        cases hh : cHas ca ⟨y.dc, y.n⟩
        · have HRX : Hid (out ++ [y] ++ entL ca cb (a.drop p) (b.drop (q + 1)) = entL ca cb a b) := by
            have h1 := HREL.out; rw [show stayL ca y = [y] by (unfold stayL; rw [show cHas ca y.dot = false from hh]; rfl)] at h1
            unfold Hid; rw [← h1, List.append_assoc]
          have HL : Hid (out.length + [y].length ≤ Few) := by unfold Hid Few; simp; omega
          clear hh
          go_wp2_with (at_builtin; go_loud ((with_reducible refine wpList_few rfl (.tmp 107) (.tmp 112) _ rfl eiEntry (by decide) (by decide) (fun _ _ h => h.one) rfl (hown1.alloc _) rfl (SlP.one (x := y) HYE.out rfl _ rfl) HL.out (by rw [World.size_alloc]; have := hBw1.size; omega) ?_); intro v1 w2 hown2 hb2 _))
          go_roundw
          case rel => exact ⟨out ++ [y], p, q + 1, hown2, rfl, by go_num, hp, by omega, HRX.out, by simp; omega, (hBw1.alloc hBw1.size _).trans hb2⟩
          case measure => simp [intOf]; omega
        · have HRX : Hid (out ++ entL ca cb (a.drop p) (b.drop (q + 1)) = entL ca cb a b) := by
            have h1 := HREL.out; rw [show stayL ca y = [] by (unfold stayL; rw [show cHas ca y.dot = true from hh]; rfl), List.nil_append] at h1
            exact h1
          clear hh
          go_wp2_with fail
          go_roundw
          case rel => exact ⟨out, p, q + 1, hown1, rfl, by go_num, hp, by omega, HRX.out, by omega, hBw1⟩
          case measure => simp [intOf]; omega
      · have hqe : q = b.length := by omega
        have t3 : decide ((q : Int) < (b.length : Int)) = false := by simp; omega
        have HR : Hid (out = entL ca cb a b) := by
          have h1 := hrel.out; rw [hpe, hqe, List.drop_of_length_le (Nat.le_refl _), List.drop_of_length_le (Nat.le_refl _), entL, List.append_nil] at h1; exact h1
        clear hrel hpe hqe a3 b3
        go_wp2_with fail
        go_ret
        exact ⟨_, rfl, by rw [← HR.out]; exact hOwr.out, hBwr⟩
end Go.Proofs.YtdcmjmcipgadlaaGreat

namespace Go.Proofs.YtdcmjmcipgadlaaGreat
open Go.RowKit
set_option maxRecDepth 100000

theorem kidClo_any (x s : ByteArray) (A A' : Option Addr) (n c n' c' : Nat) (w : World) :
    Calls Tryz.prog 181 #[.agg #[.string x, .slice A n c, .slice A' n' c'], .string s] w fun e w' => e = .returned (.int .i64 (cmpS x s)) ∧ Below w.heap.size w w' := by
  go_enter Tryz.func181, Tryz.ntmps181
  go_wp2_with fail
  refine (cmpsS_any x s _).mono ?_
  rintro e w1 ⟨rfl, rfl⟩
  go_wp2_with fail
  go_ret
  exact ⟨rfl, by go_grown⟩
theorem kidClo_enters : ∀ args W, (callFunc 181 args).run Tryz.prog W = .ok (.enter 181 args) W := enters_of Tryz.func181 (by kernel_rfl) rfl

set_option maxHeartbeats 4000000 in
theorem bsf_any (ks : List Kd) (s : ByteArray) (v : Value) (w : World) (h : SlP w w.heap.size 3 (KdE w w.heap.size) v ks) (hS : ks.Pairwise fun a b => ltS a.1 b.1 = true) :
    Calls Tryz.prog 180 #[v, .string s, .func (.func 181) #[] #[]] w fun e w' =>
      ((∃ (i : Nat) (t : Tr), e = .returned (.tuple #[.int .i64 i, .bool true]) ∧ ks[i]? = some (s, t)) ∨ (∃ i : Int, e = .returned (.tuple #[.int .i64 i, .bool false]) ∧ ∀ t, (s, t) ∉ ks)) ∧ Below w.heap.size w w' := by
  obtain ⟨A, n, rfl, b1, b2, b3⟩ := h
  unfold Big at b2
  go_enter Tryz.func180, Tryz.ntmps180
  go_wp2_with fail
  go_loopw [9, 10] (fun a b wr => ∃ lo hi : Nat, lo ≤ hi ∧ hi ≤ ks.length ∧ a = .int .i64 lo ∧ b = .int .i64 hi ∧ Hid (∀ (j : Nat) y, j < lo → ks[j]? = some y → ltS y.1 s = true) ∧ Hid (∀ (j : Nat) y, hi ≤ j → ks[j]? = some y → ltS y.1 s = false) ∧ Below w.heap.size w wr) (fun a b _ => (intOf b).toNat - (intOf a).toNat)
  case atStart => exact ⟨0, ks.length, Nat.zero_le _, Nat.le_refl _, rfl, rfl, fun j y hj => absurd hj (Nat.not_lt_zero _), fun j y hj hy => by have := (List.getElem?_eq_some_iff.1 hy).1; omega, Below.refl _ _⟩
  case round =>
    obtain ⟨lo, hi, hlh, hhn, rfl, rfl, HLO, HHI, hb⟩ := hrel
    have hsz := hb.size
    by_cases hlt : lo < hi
    · obtain ⟨m, hm, hm1, hm2⟩ : ∃ m : Nat, ((lo : Int) + (hi : Int)) / 2 = (m : Int) ∧ lo ≤ m ∧ m < hi := ⟨(lo + hi) / 2, by omega, by omega, by omega⟩
      obtain ⟨x, hx⟩ : ∃ x, ks[m]? = some x := ⟨_, List.getElem?_eq_getElem (by omega)⟩
      obtain ⟨b, off, rfl, hbB, hc⟩ := b3 (by rintro rfl; simp at hhn; omega)
      obtain ⟨cs, ⟨ve, vk, rfl, hok, hrd⟩, _, hu⟩ := hc m _ hx
      obtain ⟨A3, n3, A4, n4, rfl, rfl⟩ := rd_shape hrd
      have e0 : wr.cell? ⟨b, off + m * 3, none⟩ = some (.string x.1) := (hb.cell hbB).trans (hu 0 _ rfl)
      have e1 : wr.cell? ⟨b, off + m * 3 + 1, none⟩ = some (.slice A3 x.2.es.length n3) := (hb.cell hbB).trans (hu 1 _ rfl)
      have e2 : wr.cell? ⟨b, off + m * 3 + 2, none⟩ = some (.slice A4 x.2.ks.length n4) := (hb.cell hbB).trans (hu 2 _ rfl)
      have hcall := kidClo_any x.1 s A3 A4 x.2.es.length n3 x.2.ks.length n4 wr
      have eg := kidClo_enters
      have HX := hid hx
      have HLT : Hid (∀ (j : Nat) y, j < m → ks[j]? = some y → ltS y.1 x.1 = true) := fun j y hj hy => by
        obtain ⟨h1, h2⟩ := List.getElem?_eq_some_iff.1 hy
        obtain ⟨h3, h4⟩ := List.getElem?_eq_some_iff.1 hx
        rw [List.pairwise_iff_getElem] at hS
        have := hS j m h1 h3 hj
        rw [h2, h4] at this; exact this
      have HGT : Hid (∀ (j : Nat) y, m < j → ks[j]? = some y → ltS x.1 y.1 = true) := fun j y hj hy => by
        obtain ⟨h1, h2⟩ := List.getElem?_eq_some_iff.1 hy
        obtain ⟨h3, h4⟩ := List.getElem?_eq_some_iff.1 hx
        rw [List.pairwise_iff_getElem] at hS
        have := hS m j h3 h1 hj
        rw [h2, h4] at this; exact this
      clear hu hc b3 hx hrd hS
      rcases hq : ltS x.1 s
      · have HQ := hid hq
        have hcv : decide (cmpS x.1 s < 0) = false := by
          unfold cmpS; rw [hq]; simp only [Bool.false_eq_true, if_false]; split <;> decide
        clear hq
        have HN : Hid (∀ (j : Nat) y, m ≤ j → ks[j]? = some y → ltS y.1 s = false) := fun j y hj hy => by
          by_cases hjm : j = m
          · subst hjm; have h2 := HX.out; rw [hy] at h2; cases h2; exact HQ.out
          · cases hys : ltS y.1 s
            · rfl
            · have h3 := ltS_trans (HGT.out j y (by omega) hy) hys
              rw [HQ.out] at h3; cases h3
        go_wp2_with (go_at_fn 181; refine hcall.mono ?_; rintro e w1 ⟨rfl, hb1⟩)
        go_roundw
        case rel => exact ⟨lo, m, hm1, by omega, rfl, by go_num, HLO.out, HN.out, hb.trans (hb1.mono hsz)⟩
        case measure => simp [intOf]; omega
      · have HQ := hid hq
        have hcv : decide (cmpS x.1 s < 0) = true := by unfold cmpS; rw [hq, if_pos rfl]; decide
        clear hq
        have HN : Hid (∀ (j : Nat) y, j < m + 1 → ks[j]? = some y → ltS y.1 s = true) := fun j y hj hy => by
          by_cases hjm : j = m
          · subst hjm; have h2 := HX.out; rw [hy] at h2; cases h2; exact HQ.out
          · exact ltS_trans (HLT.out j y (by omega) hy) HQ.out
        go_wp2_with (go_at_fn 181; refine hcall.mono ?_; rintro e w1 ⟨rfl, hb1⟩)
        go_roundw
        case rel => exact ⟨m + 1, hi, by omega, hhn, by go_num, rfl, HN.out, HHI.out, hb.trans (hb1.mono hsz)⟩
        case measure => simp [intOf]; omega
    · obtain rfl : lo = hi := by omega
      by_cases hn : lo < ks.length
      · obtain ⟨x, hx⟩ : ∃ x, ks[lo]? = some x := ⟨_, List.getElem?_eq_getElem hn⟩
        obtain ⟨b, off, rfl, hbB, hc⟩ := b3 (by rintro rfl; simp at hn)
        obtain ⟨cs, ⟨ve, vk, rfl, hok, hrd⟩, _, hu⟩ := hc lo _ hx
        obtain ⟨A3, n3, A4, n4, rfl, rfl⟩ := rd_shape hrd
        have e0 : wr.cell? ⟨b, off + lo * 3, none⟩ = some (.string x.1) := (hb.cell hbB).trans (hu 0 _ rfl)
        have e1 : wr.cell? ⟨b, off + lo * 3 + 1, none⟩ = some (.slice A3 x.2.es.length n3) := (hb.cell hbB).trans (hu 1 _ rfl)
        have e2 : wr.cell? ⟨b, off + lo * 3 + 2, none⟩ = some (.slice A4 x.2.ks.length n4) := (hb.cell hbB).trans (hu 2 _ rfl)
        have hcall := kidClo_any x.1 s A3 A4 x.2.es.length n3 x.2.ks.length n4 wr
        have eg := kidClo_enters
        have h0 := HHI.out lo x (Nat.le_refl _) hx
        have HX := hid hx
        have HGT : Hid (∀ (j : Nat) y, lo < j → ks[j]? = some y → ltS x.1 y.1 = true) := fun j y hj hy => by
          obtain ⟨h1, h2⟩ := List.getElem?_eq_some_iff.1 hy
          obtain ⟨h3, h4⟩ := List.getElem?_eq_some_iff.1 hx
          rw [List.pairwise_iff_getElem] at hS
          have := hS lo j h3 h1 hj
          rw [h2, h4] at this; exact this
        have H0 := hid h0
        clear hu hc b3 hx hrd hS
        rcases hq : ltS s x.1
        · have HE : Hid (x.1 = s) := ltS_total h0 hq
          have hcv : (cmpS x.1 s == 0) = true := by unfold cmpS; rw [h0, hq]; rfl
          clear h0 hq
          go_wp2_with (go_at_fn 181; refine hcall.mono ?_; rintro e w1 ⟨rfl, hb1⟩)
          go_ret2
          exact ⟨.inl ⟨lo, x.2, rfl, by rw [HX.out, ← HE.out]⟩, hb.trans (hb1.mono hsz)⟩
        · have HQ := hid hq
          have hcv : (cmpS x.1 s == 0) = false := by unfold cmpS; rw [h0, hq]; rfl
          clear h0 hq
          go_wp2_with (go_at_fn 181; refine hcall.mono ?_; rintro e w1 ⟨rfl, hb1⟩)
          go_ret2
          refine ⟨.inr ⟨lo, rfl, fun t ht => ?_⟩, hb.trans (hb1.mono hsz)⟩
          obtain ⟨j, hj⟩ := List.getElem?_of_mem ht
          rcases Nat.lt_trichotomy j lo with h1 | h1 | h1
          · have := HLO.out j _ h1 hj; rw [ltS_irrefl] at this; cases this
          · subst h1; have h2 := HX.out; rw [hj] at h2; cases h2; have := HQ.out; rw [ltS_irrefl] at this; cases this
          · have h2 := HGT.out j _ h1 hj; have h3 := H0.out; rw [h2] at h3; cases h3
      · obtain rfl : lo = ks.length := by omega
        clear b3 hS
        go_wp2_with fail
        go_ret2
        refine ⟨.inr ⟨ks.length, rfl, fun t ht => ?_⟩, hb⟩
        obtain ⟨j, hj⟩ := List.getElem?_of_mem ht
        have := HLO.out j _ (List.getElem?_eq_some_iff.1 hj).1 hj; rw [ltS_irrefl] at this; cases this
end Go.Proofs.YtdcmjmcipgadlaaGreat

namespace Go.Proofs.YtdcmjmcipgadlaaGreat
open Go.RowKit
set_option maxRecDepth 100000

/-- The call hands back a tree that lay in memory before. -/
def RetS (w : World) (t : Tr) (e : Ending) (w' : World) : Prop :=
  ∃ ve vk, e = .returned (.agg #[ve, vk]) ∧ t.rd w w.heap.size ve vk ∧ Below w.heap.size w w'
set_option maxHeartbeats 4000000 in
theorem ckid_any (t : Tr) (s : ByteArray) (ve vk : Value) (w : World) (h : t.rd w w.heap.size ve vk) (ho : t.Ord) :
    Calls Tryz.prog 155 #[.agg #[ve, vk], .string s] w (RetS w (kidT t s)) := by
  have HD := hid h
  have hS : t.ks.Pairwise fun a b => ltS a.1 b.1 = true := by obtain ⟨es, ks⟩ := t; exact (ord_iff.1 ho).2.1
  have HO := hid ho
  obtain ⟨A3, n3, A4, n4, rfl, rfl⟩ := rd_shape h
  have hb0 : Below w.heap.size w ((w.alloc (.cells #[.slice A3 t.es.length n3, .slice A4 t.ks.length n4] 25)).alloc (.cells #[.slice none 0 0, .slice none 0 0] 25)) := ((Below.refl _ w).alloc (Nat.le_refl _) _).alloc (by simp) _
  have hkl : t.ks.length ≤ 140737488355328 := by
    have h1 := HD.out; obtain ⟨es, ks⟩ := t; obtain ⟨_, _, _, _, h2, _⟩ := (rd_iff.1 h1).2; exact h2
  clear h
  go_enter Tryz.func155, Tryz.ntmps155
  go_wp2_with fail
  refine (bsf_any t.ks s _ _ (kids_slp (rd_below hb0 hb0.size t _ _ HD.out)) hS).mono ?_
  rintro e w1 ⟨he, hb1⟩
  have hs1 := hb1.size
  simp only [World.size_alloc] at hs1
  have hB1 : Below w.heap.size w w1 := hb0.trans (hb1.mono (by simp; omega))
  have g2 := (hb1.block w.heap.size (by simp; omega)).trans ((heap_old (by simp)).trans (heap_new (o := .cells #[.slice A3 t.es.length n3, .slice A4 t.ks.length n4] 25) rfl))
  have g4 := (hb1.block (w.heap.size + 1) (by simp)).trans (heap_new (w := w.alloc (.cells #[.slice A3 t.es.length n3, .slice A4 t.ks.length n4] 25)) (by simp))
  have HG4 := hid g4
  have c0 := cell_cells (i := 0) g2
  have c1 := cell_cells (i := 1) g2
  have k0 := cell_cells (i := 0) g4
  have k1 := cell_cells (i := 1) g4
  have z0 := cells_frz (i := 0) g4
  have z1 := cells_frz (i := 1) g4
  simp only [List.getElem?_toArray, List.getElem?_cons_zero, List.getElem?_cons_succ] at c0 c1 k0 k1
  clear g2 g4 hS hb1
  rcases he with ⟨i, u, rfl, hi⟩ | ⟨i, rfl, hn⟩
  · have hil : i < t.ks.length := (List.getElem?_eq_some_iff.1 hi).1
    have hKT : kidT t s = u := kidT_mem HO.out (List.mem_of_getElem? hi)
    obtain ⟨b', off', rfl, hbB', vAe, vne, vAk, vnk, HRV, q1, q2⟩ : ∃ b' off', A4 = some ⟨b', off', none⟩ ∧ b' < w.heap.size ∧ ∃ vAe vne vAk vnk, Hid (u.rd w w.heap.size (.slice vAe u.es.length vne) (.slice vAk u.ks.length vnk)) ∧ w1.cell? ⟨b', off' + i * 3 + 1, none⟩ = some (.slice vAe u.es.length vne) ∧ w1.cell? ⟨b', off' + i * 3 + 2, none⟩ = some (.slice vAk u.ks.length vnk) := by
      have h1 := HD.out
      obtain ⟨es, ks⟩ := t
      obtain ⟨Ak', ck', he, _, _, h3⟩ := (rd_iff.1 h1).2
      cases he
      obtain ⟨b', off', rfl, hbB', hc'⟩ := h3 (by rintro rfl; simp [Tr.ks] at hil)
      obtain ⟨cs, ⟨ve', vk', rfl, _, hrd'⟩, _, hu'⟩ := hc' i _ hi
      obtain ⟨vAe, vne, vAk, vnk, rfl, rfl⟩ := rd_shape hrd'
      exact ⟨b', off', rfl, hbB', vAe, vne, vAk, vnk, hrd', (hB1.cell (p := ⟨b', off' + i * 3 + 1, none⟩) hbB').trans (hu' 1 _ rfl), (hB1.cell (p := ⟨b', off' + i * 3 + 2, none⟩) hbB').trans (hu' 2 _ rfl)⟩
    have HKT := hid hKT
    clear hi hKT
    go_wp2_with fail
    have hW0 := cells_set (i := 1) (cells_set (i := 0) HG4.out (.slice vAe u.es.length vne)) (.slice vAk u.ks.length vnk)
    have r0 := (cell_cells (i := 0) hW0).trans (show _ = some (.slice vAe u.es.length vne) by simp)
    have r1 := (cell_cells (i := 1) hW0).trans (show _ = some (.slice vAk u.ks.length vnk) by simp)
    refine bodyPost_ret (v := .agg #[.slice vAe u.es.length vne, .slice vAk u.ks.length vnk]) (by simp [results, Tryz.results155, go_sem, r0, r1]) rfl ⟨_, _, rfl, (by rw [HKT.out]; exact HRV.out), (hB1.setCell (by simp) _).setCell (by simp) _⟩
  · have HKT : Hid (kidT t s = .mk [] []) := kidT_none hn
    go_wp2_with fail
    have hW0 := cells_set (i := 1) (cells_set (i := 0) HG4.out (.slice none 0 0)) (.slice none 0 0)
    have r0 := (cell_cells (i := 0) hW0).trans (show _ = some (.slice none 0 0) by simp)
    have r1 := (cell_cells (i := 1) hW0).trans (show _ = some (.slice none 0 0) by simp)
    refine bodyPost_ret (v := .agg #[.slice none 0 0, .slice none 0 0]) (by simp [results, Tryz.results155, go_sem, r0, r1]) rfl ⟨_, _, rfl, (by rw [HKT.out]; exact rd_empty), (hB1.setCell (by simp) _).setCell (by simp) _⟩
end Go.Proofs.YtdcmjmcipgadlaaGreat

namespace Go.Proofs.YtdcmjmcipgadlaaGreat
open Go.RowKit
set_option maxRecDepth 100000

theorem KdE.one {w : World} {B : Nat} {x : Kd} {cs : List Value} (h : KdE w B x cs) : ∀ u ∈ cs, u.oneCell' = true := by
  obtain ⟨ve, vk, rfl, _, h⟩ := h
  obtain ⟨A, n, A', m, rfl, rfl⟩ := rd_shape h
  simp [Value.oneCell']
def RetGK {w0 : World} (B0 : Nat) (w : World) (e : Ending) (w' : World) : Prop := ∃ v, e = .returned v ∧ OwnP w' w.heap.size 73 3 (KdE w0 B0) v [] ∧ Below w.heap.size w w'
set_option maxHeartbeats 2000000 in
theorem growK_any (w0 : World) (B0 n : Nat) (w : World) (hn : n ≤ 900000) : Calls Tryz.prog 179 #[.slice none 0 0, .int .i64 n] w (RetGK (w0 := w0) B0 w) := by
  rcases Nat.eq_zero_or_pos n with rfl | hp
  · go_enter Tryz.func179, Tryz.ntmps179
    go_wp2_with fail
    go_ret
    exact ⟨_, rfl, OwnP.nil, Below.refl _ _⟩
  · have ht := Tryz.underlying23
    obtain ⟨i, hi, hz, hs, hby⟩ := info_parts (show (Tryz.prog.info? 73).map (fun i => (i.zero, i.size, i.bytes)) = some (some (.agg #[.string ByteArray.empty, .slice none 0 0, .slice none 0 0]), 3, 64) by kernel_rfl)
    have hold : (Builtin.firstCells i.size 0 (.slice none 0 0)).run Tryz.prog w.drew = .ok (#[] : Array Value) w.drew := run_firstCells_none w.drew i.size 0 0 0
    have hrz : ∀ ty, (Builtin.append_ #[23, 3] ty #[.slice none 0 0, .int .i64 (n : Int)]).run Tryz.prog w = .ok (.slice (some ⟨w.heap.size, 0, none⟩) n (grownCap w n 0 73)) (w.drew.alloc (.cells (#[] ++ Builtin.zeroCells #[.string ByteArray.empty, .slice none 0 0, .slice none 0 0] n ++ Builtin.zeroCells #[.string ByteArray.empty, .slice none 0 0, .slice none 0 0] (grownCap w n 0 73 - n)) 73)) := fun ty => by
      have h := Lib.run_append_grow_zeros w 23 3 ty 73 i (.agg #[.string ByteArray.empty, .slice none 0 0, .slice none 0 0]) .i64 .i64 ht Tryz.underlying3 hi hz none 0 0 [] hold n hp (by omega) (by omega) (by omega) (by rw [hby]; omega) (by rw [hby, Nat.zero_add]; exact growslice_fits hp (by omega))
      simpa [Value.cells] using h
    have hge := grownCap_ge w n 0 73
    have hle := grownCap_le_maxLen w n 0 73 (by unfold maxLen; omega)
    generalize grownCap w n 0 73 = G at *
    have hG63 : G ≤ 9223372036854775807 := by unfold maxLen at hle; omega
    have HLE := hid hle
    clear hle hold ht hi hz hs hby
    go_enter Tryz.func179, Tryz.ntmps179
    go_wp2_with (at_builtin; refine Lib.wpList_append_run _ rfl _ _ _ _ rfl _ _ rfl rfl _ _ (hrz _) ?_)
    all_goals
      go_ret
      refine ⟨_, rfl, ⟨[], ⟨rfl, fun j x h => by simp at h⟩, by simp, .inr ⟨w.heap.size, G, _, rfl, Nat.le_refl _, heap_alloc_new _ _, Nat.zero_le _, HLE.out, ?_, by simp⟩⟩, ((Below.refl w.heap.size w).drew).alloc (Nat.le_refl _) _⟩
      simp [size_zeroCells]
      omega

set_option maxHeartbeats 4000000 in
theorem concatK_any (w0 : World) (B0 : Nat) (a b : List Kd) (va vb : Value) (B : Nat) (w : World) (h0 : w.cell? ⟨B, 0, none⟩ = some va) (h1 : w.cell? ⟨B, 1, none⟩ = some vb) (hB : B < w.heap.size) (ha : SlP w w.heap.size 3 (KdE w0 B0) va a) (hb : SlP w w.heap.size 3 (KdE w0 B0) vb b) (hN : a.length ≤ 300000) (hN' : b.length ≤ 300000) :
    Calls Tryz.prog 154 #[.slice (some ⟨B, 0, none⟩) 2 2] w (RetO w 73 3 (fun _ => KdE w0 B0) (a ++ b)) := by
  have HA := hid ha
  have HB := hid hb
  obtain ⟨A1, c1, rfl, _⟩ := ha
  obtain ⟨A2, c2, rfl, _⟩ := hb
  have hla : ((catK a b 2).length : Int) = a.length + b.length := by simp [catK]
  go_enter Tryz.func154, Tryz.ntmps154
  go_wp2_with fail
  go_loop [3, 11] (fun s i => ∃ k : Nat, k ≤ 2 ∧ i = .int .i64 k ∧ s = .int .i64 ((catK a b k).length : Nat)) (fun _ i => 2 - (intOf i).toNat)
  case atStart => exact ⟨0, by omega, rfl, rfl⟩
  case round =>
    obtain ⟨k, hk, rfl, rfl⟩ := hrel
    match k, hk with
    | 0, _ =>
      clear hla
      simp only [catK, List.length_nil]
      go_wp2_with fail
      go_round
      case rel => exact ⟨1, by omega, rfl, by simp⟩
      case measure => simp [intOf]
    | 1, _ =>
      clear hla
      simp only [catK]
      go_wp2_with fail
      go_round
      case rel => exact ⟨2, by omega, rfl, by simp⟩
      case measure => simp [intOf]
    | 2, _ =>
      obtain ⟨m, hm⟩ : ∃ m : Nat, m = (catK a b 2).length := ⟨_, rfl⟩
      rw [← hm] at hla ⊢
      have hm2 : m ≤ 600000 := by omega
      clear hla hm
      go_wp2_with fail
      refine (growK_any w0 B0 m w (by omega)).mono ?_
      rintro e w1 ⟨v1, rfl, ho1, hb1⟩
      have hs1 := hb1.size
      go_wp2_with fail
      go_loopw [6, 27] (fun v i wr => ∃ k : Nat, k ≤ 2 ∧ i = .int .i64 k ∧ OwnP wr w.heap.size 73 3 (KdE w0 B0) v (catK a b k) ∧ Below w.heap.size w wr) (fun _ i _ => 2 - (intOf i).toNat)
      case atStart => exact ⟨0, by omega, rfl, ho1, hb1⟩
      case round =>
        obtain ⟨k, hk, rfl, hown, hbr⟩ := hrel
        have hsz := hbr.size
        have e0 : wr.cell? ⟨B, 0, none⟩ = some (.slice A1 a.length c1) := (hbr.cell (p := ⟨B, 0, none⟩) hB).trans h0
        have e1 : wr.cell? ⟨B, 1, none⟩ = some (.slice A2 b.length c2) := (hbr.cell (p := ⟨B, 1, none⟩) hB).trans h1
        have HSA := hid (HA.out.imp hbr hsz fun _ _ _ h => h)
        have HSB := hid (HB.out.imp hbr hsz fun _ _ _ h => h)
        match k, hk with
        | 0, _ =>
          have HL : Hid ((catK a b 0).length + a.length ≤ Few) := by unfold Hid Few; simp [catK]; omega
          go_wp2_with (at_builtin; refine wpList_few rfl (.tmp 31) (.tmp 32) _ rfl eiKid (by decide) (by decide) (fun _ _ h => h.one) rfl hown rfl HSA.out HL.out hsz ?_; intro v2 w2 hown2 hb2 _)
          go_roundw
          case rel => exact ⟨1, by omega, rfl, by simpa [catK] using hown2, hbr.trans hb2⟩
          case measure => simp [intOf]
        | 1, _ =>
          have HL : Hid ((catK a b 1).length + b.length ≤ Few) := by unfold Hid Few; simp [catK]; omega
          go_wp2_with (at_builtin; refine wpList_few rfl (.tmp 31) (.tmp 32) _ rfl eiKid (by decide) (by decide) (fun _ _ h => h.one) rfl hown rfl HSB.out HL.out hsz ?_; intro v2 w2 hown2 hb2 _)
          go_roundw
          case rel => exact ⟨2, by omega, rfl, by simpa [catK] using hown2, hbr.trans hb2⟩
          case measure => simp [intOf]
        | 2, _ =>
          go_wp2_with fail
          go_ret
          exact ⟨_, rfl, hown, hbr⟩
end Go.Proofs.YtdcmjmcipgadlaaGreat

namespace Go.Proofs.YtdcmjmcipgadlaaGreat
open Go.RowKit
set_option maxRecDepth 100000

/-- The keys of two trees. -/
def joinK (a b : Tr) : List ByteArray := cmpL (srtL ((a.ks ++ b.ks).map (·.1)))
def joinF (f : ByteArray → Tr) (k : ByteArray) : List Kd := if (f k).empty then [] else [(k, f k)]
/-- Two trees joined. -/
def joinT : Nat → List Sp → List Sp → Tr → Tr → Tr
  | 0, _, _, _, _ => .mk [] []
  | n + 1, ca, cb, a, b => .mk (entL ca cb a.es b.es) ((joinK a b).flatMap (joinF fun k => joinT n ca cb (kidT a k) (kidT b k)))
theorem joinF_len (f : ByteArray → Tr) (k : ByteArray) : (joinF f k).length ≤ 1 := by unfold joinF; split <;> simp
theorem joinF_lens (f : ByteArray → Tr) : ∀ l : List ByteArray, (l.flatMap (joinF f)).length ≤ l.length
  | [] => by simp
  | k :: l => by
    have h1 := joinF_len f k
    have h2 := joinF_lens f l
    rw [List.flatMap_cons, List.length_append, List.length_cons]; omega
theorem joinF_take {l : List ByteArray} {k : Nat} {x : ByteArray} (h : l[k]? = some x) (f : ByteArray → Tr) : (l.take (k + 1)).flatMap (joinF f) = (l.take k).flatMap (joinF f) ++ joinF f x := by
  rw [List.take_add_one, h, List.flatMap_append]; simp
theorem cmpL_len (l : List ByteArray) : (cmpL l).length ≤ l.length := by
  unfold cmpL
  have := Lib.compact_length_le (l.map toBy)
  rw [List.length_map] at this ⊢; exact this
theorem cmpL_mem {l : List ByteArray} {x : ByteArray} (h : x ∈ cmpL l) : x ∈ l := by
  unfold cmpL at h
  obtain ⟨y, hy, rfl⟩ := List.mem_map.1 h
  unfold Lib.compact Lib.compactUpTo at hy
  obtain ⟨j, hj, rfl⟩ := List.mem_map.1 hy
  have hj' : j < (l.map toBy).length := List.mem_range.1 (List.mem_filter.1 hj).1
  rw [getElem!_pos _ j (by simpa using hj')]
  simp [ofBy_toBy]
theorem srtL_mem {l : List ByteArray} {x : ByteArray} (h : x ∈ srtL l) : x ∈ l := by
  unfold srtL at h
  obtain ⟨y, hy, rfl⟩ := List.mem_map.1 h
  obtain ⟨z, hz, rfl⟩ := List.mem_map.1 ((List.mergeSort_perm _ _).subset hy)
  exact hz
theorem joinK_mem {a b : Tr} {x : ByteArray} (h : x ∈ joinK a b) : ∃ t, (x, t) ∈ a.ks ∨ (x, t) ∈ b.ks := by
  have := srtL_mem (cmpL_mem h)
  obtain ⟨⟨k, t⟩, hm, rfl⟩ := List.mem_map.1 this
  rcases List.mem_append.1 hm with h | h
  · exact ⟨t, .inl h⟩
  · exact ⟨t, .inr h⟩
theorem joinK_len (a b : Tr) : (joinK a b).length ≤ a.ks.length + b.ks.length := by
  unfold joinK
  have h1 := cmpL_len (srtL ((a.ks ++ b.ks).map (·.1)))
  rw [srtL_len, List.length_map, List.length_append] at h1
  exact h1
theorem dep_pos (t : Tr) : 1 ≤ t.dep := by obtain ⟨es, ks⟩ := t; rw [Tr.dep]; omega
theorem kid_dep_of {t u : Tr} {k : ByteArray} (h : (k, u) ∈ t.ks) : u.dep + 1 ≤ t.dep := by
  obtain ⟨es, ks⟩ := t
  rw [Tr.dep]; have := depL_le (show (k, u) ∈ ks from h); omega
theorem kidT_dep {t : Tr} (ho : t.Ord) {n : Nat} (h : t.dep ≤ n + 1) (hn : 1 ≤ n) (k : ByteArray) : (kidT t k).dep ≤ n := by
  by_cases hm : ∃ u, (k, u) ∈ t.ks
  · obtain ⟨u, hm⟩ := hm
    rw [kidT_mem ho hm]; have := kid_dep_of hm; omega
  · rw [kidT_none fun u hu => hm ⟨u, hu⟩]; simp [Tr.dep, Tr.depL]; omega
theorem joinK_dep {a b : Tr} {n : Nat} (ha : a.dep ≤ n + 1) (hb : b.dep ≤ n + 1) {x : ByteArray} (h : x ∈ joinK a b) : 1 ≤ n := by
  obtain ⟨t, h | h⟩ := joinK_mem h
  · have := kid_dep_of h; have := dep_pos t; omega
  · have := kid_dep_of h; have := dep_pos t; omega
theorem es_sz (t : Tr) : t.es.length + t.ks.length ≤ t.sz := by
  obtain ⟨es, ks⟩ := t
  have := szL_len ks
  rw [Tr.sz]; simp only [Tr.es, Tr.ks]; omega
theorem es_slp {t : Tr} {w : World} {B : Nat} {ve vk : Value} (h : t.rd w B ve vk) : SlP w B 4 EnE ve t.es := by
  obtain ⟨es, ks⟩ := t; exact (rd_iff.1 h).1

theorem below_via {w w' : World} {o : Obj} (h : Below (w.alloc o).heap.size (w.alloc o) w') : Below w.heap.size w w' := ((Below.refl _ w).alloc (Nat.le_refl _) o).trans (h.mono (by simp))
theorem fin_set {wr w7 : World} {n N : Nat} {x y u v : Value} {e : TypeId} {t : Tr} (hbox : w7.heap[n]? = some (.cells #[x, y] e (0, 0))) (hn : wr.heap.size ≤ n) (hb : Below wr.heap.size wr w7) (hr : t.rda w7 (fun b => N ≤ b ∧ b < w7.heap.size) u v) (hnN : n < N) :
    ∀ W, Below ((w7.setCell ⟨n, 0, none⟩ u).setCell ⟨n, 1, none⟩ v).heap.size ((w7.setCell ⟨n, 0, none⟩ u).setCell ⟨n, 1, none⟩ v) W → W.cell? ⟨n, 0, none⟩ = some u ∧ W.cell? ⟨n, 1, none⟩ = some v ∧ Below wr.heap.size wr W ∧ t.rda W (fun b => wr.heap.size ≤ b ∧ b < W.heap.size) u v := by
  intro W hW
  have hsz : ((w7.setCell ⟨n, 0, none⟩ u).setCell ⟨n, 1, none⟩ v).heap.size = w7.heap.size := by simp [World.setCell]
  rw [hsz] at hW
  have hlt := lt_of_block hbox
  have hg : W.heap[n]? = some (.cells #[u, v] e (0, 0)) := (hW.block n hlt).trans (by simpa using cells_set (i := 1) (cells_set (i := 0) hbox u) v)
  have hs := hW.size
  rw [hsz] at hs
  refine ⟨cell_cells (i := 0) hg, cell_cells (i := 1) hg, ((hb.setCell hn _).setCell hn _).trans (hW.mono hb.size), rda_up (fun b hb' => ?_) (fun b hb' => ⟨by omega, by omega⟩) _ _ _ hr⟩
  rw [hW.block b hb'.2]
  exact (Below.heap_setCell _ _ _ _ (by simp; omega)).trans (Below.heap_setCell _ _ _ _ (by simp; omega))
theorem fin_new {wr w7 : World} {N : Nat} {u v : Value} {e : TypeId} {t : Tr} (hb : Below wr.heap.size wr w7) (hr : t.rda w7 (fun b => N ≤ b ∧ b < w7.heap.size) u v) (hN : wr.heap.size ≤ N) :
    ∀ W, Below (w7.alloc (.cells #[u, v] e)).heap.size (w7.alloc (.cells #[u, v] e)) W → W.cell? ⟨w7.heap.size, 0, none⟩ = some u ∧ W.cell? ⟨w7.heap.size, 1, none⟩ = some v ∧ Below wr.heap.size wr W ∧ t.rda W (fun b => wr.heap.size ≤ b ∧ b < W.heap.size) u v := by
  intro W hW
  have hg : W.heap[w7.heap.size]? = some (.cells #[u, v] e (0, 0)) := (hW.block _ (by simp)).trans (heap_new rfl)
  have hs := hW.size
  rw [World.size_alloc] at hs
  refine ⟨cell_cells (i := 0) hg, cell_cells (i := 1) hg, (hb.alloc hb.size _).trans (hW.mono (by have := hb.size; simp; omega)), rda_up (fun b hb' => ?_) (fun b hb' => ⟨by omega, by omega⟩) _ _ _ hr⟩
  rw [hW.block b (by rw [World.size_alloc]; omega)]
  exact heap_old hb'.2
set_option maxHeartbeats 4000000 in
theorem ctrees_any (ca cb : List Sp) (hN1 : ca.length ≤ 900000) (hN2 : cb.length ≤ 900000) : ∀ (n : Nat) (a b : Tr) (va ka vb kb vca vcb : Value) (w : World), a.rd w w.heap.size va ka → b.rd w w.heap.size vb kb → SlP w w.heap.size 3 SpE vca ca → SlP w w.heap.size 3 SpE vcb cb → a.Ord → b.Ord → a.dep ≤ n → b.dep ≤ n → a.sz ≤ 100000 → b.sz ≤ 100000 →
    Calls Tryz.prog 130 #[.agg #[va, ka], .agg #[vb, kb], vca, vcb] w (RetT w (joinT n ca cb a b)) := by
  intro n
  induction n with
  | zero => intro a b _ _ _ _ _ _ w _ _ _ _ _ _ h _ _ _; have := dep_pos a; omega
  | succ n ih =>
  intro a b va ka vb kb vca vcb w ha hb hca hcb hoa hob hda hdb hza hzb
  have HA := hid ha
  have HB := hid hb
  have HCA : Hid (∀ w', Below w.heap.size w w' → SlP w' w'.heap.size 3 SpE vca ca) := fun w' hb => hca.imp hb hb.size fun _ _ _ h => h
  have HCB : Hid (∀ w', Below w.heap.size w w' → SlP w' w'.heap.size 3 SpE vcb cb) := fun w' hb => hcb.imp hb hb.size fun _ _ _ h => h
  have hea := es_sz a
  have heb := es_sz b
  have hel := entL_len ca cb _ a.es b.es (Nat.le_refl _)
  obtain ⟨A1, n1, A2, n2, rfl, rfl⟩ := rd_shape ha
  obtain ⟨A3, n3, A4, n4, rfl, rfl⟩ := rd_shape hb
  obtain ⟨A5, n5, rfl, _⟩ := hca
  obtain ⟨A6, n6, rfl, _⟩ := hcb
  have hb0 : Below w.heap.size w (((w.alloc (.cells #[.slice A1 a.es.length n1, .slice A2 a.ks.length n2] 25)).alloc (.cells #[.slice A3 b.es.length n3, .slice A4 b.ks.length n4] 25)).alloc (.cells #[.slice none 0 0, .slice none 0 0] 25)) := (((Below.refl _ w).alloc (Nat.le_refl _) _).alloc (by simp) _).alloc (by simp; omega) _
  have HW : Hid (∀ w', Below (w.heap.size + 3) (((w.alloc (.cells #[.slice A1 a.es.length n1, .slice A2 a.ks.length n2] 25)).alloc (.cells #[.slice A3 b.es.length n3, .slice A4 b.ks.length n4] 25)).alloc (.cells #[.slice none 0 0, .slice none 0 0] 25)) w' → Below w.heap.size w w' ∧ w.heap.size + 3 ≤ w'.heap.size ∧ w'.heap[w.heap.size]? = some (.cells #[.slice A1 a.es.length n1, .slice A2 a.ks.length n2] 25 (0, 0)) ∧ w'.heap[w.heap.size + 1]? = some (.cells #[.slice A3 b.es.length n3, .slice A4 b.ks.length n4] 25 (0, 0)) ∧ w'.heap[w.heap.size + 2]? = some (.cells #[.slice none 0 0, .slice none 0 0] 25 (0, 0))) := fun w' hb =>
    ⟨hb0.trans (hb.mono (by omega)), by have := hb.size; simpa using this, (hb.block _ (by omega)).trans ((heap_old (by simp <;> omega)).trans ((heap_old (by simp)).trans (heap_new rfl))), (hb.block _ (by omega)).trans ((heap_old (by simp)).trans (heap_new (by simp))), (hb.block _ (by omega)).trans (heap_new (by simp))⟩
  have HOA := hid hoa
  have HOB := hid hob
  clear ha hb hoa hob
  go_enter Tryz.func130, Tryz.ntmps130
  go_wp2_with fail
  refine (centries_any a.es b.es ca cb _ _ _ _ _ ((es_slp HA.out).imp hb0 hb0.size fun _ _ _ h => h) ((es_slp HB.out).imp hb0 hb0.size fun _ _ _ h => h) (HCA.out _ hb0) (HCB.out _ hb0) (by omega) hN1 hN2).mono ?_
  rintro e w1 ⟨v1, rfl, ho1, hb1⟩
  obtain ⟨Ae, ce, rfl⟩ := OwnP.shape ho1
  have HO1 := hid ho1
  have hJ : joinT (n + 1) ca cb a b = .mk (entL ca cb a.es b.es) ((joinK a b).flatMap (joinF fun k => joinT n ca cb (kidT a k) (kidT b k))) := rfl
  have HJ := hid hJ
  generalize entL ca cb a.es b.es = E at *
  have hb1' := hid (hb1.mono (show w.heap.size + 3 ≤ _ by simp))
  obtain ⟨hB1, hs1, g0, g1, g2⟩ := HW.out _ hb1'.out
  have a1 : w1.cell? ⟨w.heap.size, 1, none⟩ = some (.slice A2 a.ks.length n2) := cell_cells (i := 1) g0
  have b1 : w1.cell? ⟨w.heap.size + 1, 1, none⟩ = some (.slice A4 b.ks.length n4) := cell_cells (i := 1) g1
  have hlt0 : w.heap.size < w1.heap.size := by omega
  have hlt1 : w.heap.size + 1 < w1.heap.size := by omega
  have hne0 : w.heap.size ≠ w1.heap.size := by omega
  have hne1 : w.heap.size + 1 ≠ w1.heap.size := by omega
  clear ho1 hJ g0 g1 g2 hb1
  have hb2 : Below w.heap.size w ((w1.alloc (.cells #[.slice Ae E.length ce, .slice none 0 0] 25)).alloc (.cells #[.slice A2 a.ks.length n2, .slice A4 b.ks.length n4] 23)) := (hB1.alloc (by omega) _).alloc (by simp; omega) _
  go_wp2_with fail
  refine (concatK_any w w.heap.size a.ks b.ks _ _ (w1.heap.size + 1) _ (by simp) (by simp) (by simp) ((kids_slp HA.out).imp hb2 hb2.size fun _ _ _ h => h) ((kids_slp HB.out).imp hb2 hb2.size fun _ _ _ h => h) (by omega) (by omega)).mono ?_
  rintro e w2 ⟨v2, rfl, ho2, hb3⟩
  have hs2 := hb3.size
  simp only [World.size_alloc] at hs2
  have hb12 : Below (w1.heap.size + 1) (w1.alloc (.cells #[.slice Ae E.length ce, .slice none 0 0] 25)) w2 := ((Below.refl _ _).alloc (by simp) _).trans (hb3.mono (by simp))
  obtain ⟨Ac, cc, rfl⟩ := OwnP.shape ho2
  have HSL := hid (ho2.sl (by unfold Big; simp; omega))
  have HB12 := hid hb12
  clear ho2 hb3 hb12 a1 b1 hb2
  obtain ⟨KS, hKS⟩ : ∃ KS, KS = a.ks ++ b.ks := ⟨_, rfl⟩
  have hKl : KS.length ≤ 200000 := by rw [hKS, List.length_append]; omega
  rw [← hKS] at HSL ⊢
  have HKS := hid hKS
  clear hKS
  go_wp2_with fail
  go_loopw [10, 31] (fun v i wr => ∃ k : Nat, k ≤ KS.length ∧ i = .int .i64 k ∧ OwnP wr w2.heap.size 9 1 StE v ((KS.take k).map (·.1)) ∧ Below w2.heap.size w2 wr) (fun _ i _ => KS.length - (intOf i).toNat)
  case atStart => exact ⟨0, Nat.zero_le _, rfl, OwnP.nil, Below.refl _ _⟩
  case round =>
    obtain ⟨k, hk, rfl, hown, hb⟩ := hrel
    have hsz := hb.size
    by_cases hlt : k < KS.length
    · obtain ⟨⟨key, t⟩, hx⟩ : ∃ x, KS[k]? = some x := ⟨_, List.getElem?_eq_getElem hlt⟩
      obtain ⟨A, m, hv, c1, c2, c3⟩ := HSL.out
      cases hv
      obtain ⟨b, off, rfl, hbB, hc⟩ := c3 (by rintro rfl; simp at hlt)
      obtain ⟨cs, ⟨ve', vk', rfl, hkb, hrd⟩, _, hu⟩ := hc k _ hx
      obtain ⟨A5, n5, A6, n6, rfl, rfl⟩ := rd_shape hrd
      have e0 : wr.cell? ⟨b, off + k * 3, none⟩ = some (.string key) := (hb.cell hbB).trans (hu 0 _ rfl)
      have e1 : wr.cell? ⟨b, off + k * 3 + 1, none⟩ = some (.slice A5 t.es.length n5) := (hb.cell hbB).trans (hu 1 _ rfl)
      have e2 : wr.cell? ⟨b, off + k * 3 + 2, none⟩ = some (.slice A6 t.ks.length n6) := (hb.cell hbB).trans (hu 2 _ rfl)
      have HX : Hid ((KS.take (k + 1)).map (·.1) = (KS.take k).map (·.1) ++ [key]) := by unfold Hid; rw [List.take_add_one, hx]; simp
      have HL : Hid (((KS.take k).map (·.1)).length + [key].length ≤ Few) := by unfold Hid Few; simp; omega
      have HKY : Hid (StE key [.string key]) := ⟨rfl, hkb⟩
      clear hu hc c3 hx hrd
      go_wp2_with (at_builtin; go_loud ((with_reducible refine wpList_few rfl (.tmp 35) (.tmp 38) _ rfl eiStr (by decide) (by decide) (fun _ _ h => StE.one h) rfl ((hown.alloc _).alloc _) rfl (SlP.oneN (x := key) HKY.out rfl _ rfl) HL.out (by simp only [World.size_alloc]; omega) ?_); intro v1 w3 hown1 hb2 _; have hb3 := (((Below.refl w2.heap.size wr).alloc (by omega) _).alloc (by simp only [World.size_alloc]; omega) _).trans hb2))
      go_roundw
      case rel => exact ⟨k + 1, by omega, by go_num, by rw [HX.out]; exact hown1, hb.trans hb3⟩
      case measure => simp [intOf]; omega
    · obtain rfl : k = KS.length := by omega
      rw [List.take_of_length_le (Nat.le_refl _)] at hown
      go_wp2_with fail
      refine (sortStr_any _ _ _ _ hown (by simp; omega) hsz).mono ?_
      rintro e w3 ⟨rfl, ho3, hb3⟩
      have hs3 : w2.heap.size ≤ w3.heap.size := Nat.le_trans hsz hb3.size
      go_wp2_with fail
      refine (compactStr_any _ _ _ _ ho3 (by rw [srtL_len]; simp; omega) hs3).mono ?_
      rintro e w4 ⟨v4, rfl, ho4, hb4⟩
      have hs4 : w2.heap.size ≤ w4.heap.size := Nat.le_trans hs3 hb4.size
      have hKK : cmpL (srtL (KS.map (·.1))) = joinK a b := by unfold joinK; rw [HKS.out]
      rw [hKK] at ho4
      have hkl := joinK_len a b
      have hB24 : Below w2.heap.size w2 w4 := (hb.trans hb3).trans hb4
      have HKM : Hid (∀ x ∈ joinK a b, 1 ≤ n) := fun x hx => joinK_dep hda hdb hx
      clear hKK hown ho3 hb hb3 hb4 hsz hs3 hlt hk
      have hB14 : Below (w1.heap.size + 1) (w1.alloc (.cells #[.slice Ae E.length ce, .slice none 0 0] 25)) w4 := HB12.out.trans (hB24.mono (by omega))
      have HG4 : Hid (w4.heap[w1.heap.size]? = some (.cells #[.slice Ae E.length ce, .slice none 0 0] 25 (0, 0))) := (hB14.block _ (by omega)).trans (heap_new rfl)
      have HB14 : Hid (Below w1.heap.size w1 w4) := ((Below.refl _ w1).alloc (Nat.le_refl _) _).trans (hB14.mono (by omega))
      have HSLA := hid (ho4.sla (by unfold Big; omega))
      obtain ⟨A9, c9, hv4⟩ := OwnP.shape ho4
      subst hv4
      clear ho4 hB14 hB24 wr
      have hJK : Hid ((joinK a b).flatMap (joinF fun k => joinT n ca cb (kidT a k) (kidT b k)) = (joinK a b).flatMap (joinF fun k => joinT n ca cb (kidT a k) (kidT b k))) := rfl
      generalize hKKe : joinK a b = KK at *
      have HKKe := hid hKKe
      clear hKKe
      generalize hFF : (fun k => joinT n ca cb (kidT a k) (kidT b k)) = F at *
      have HF : Hid (∀ k, F k = joinT n ca cb (kidT a k) (kidT b k)) := fun k => by rw [← hFF]
      clear hFF hJK
      have hlt4 : w1.heap.size < w4.heap.size := by omega
      go_wp2_with fail
      go_loopw [46] (fun i wr => ∃ k : Nat, k ≤ KK.length ∧ i = .int .i64 k ∧ ∃ Ak ck, wr.heap[w1.heap.size]? = some (.cells #[.slice Ae E.length ce, .slice Ak ((KK.take k).flatMap (joinF F)).length ck] 25 (0, 0)) ∧
          OwnD wr w4.heap.size 73 3 KdA (fun b => w4.heap.size ≤ b) (.slice Ak ((KK.take k).flatMap (joinF F)).length ck) ((KK.take k).flatMap (joinF F)) ∧ w4.heap.size ≤ wr.heap.size ∧ Below w1.heap.size w1 wr ∧ ∀ b, w1.heap.size < b → b < w4.heap.size → wr.heap[b]? = w4.heap[b]?) (fun i _ => KK.length - (intOf i).toNat)
      case atStart => exact ⟨0, Nat.zero_le _, rfl, none, 0, HG4.out, OwnP.nil, Nat.le_refl _, HB14.out, fun _ _ _ => rfl⟩
      case round =>
        obtain ⟨k, hk, rfl, Ak, ck, hg, hown, hsz, hb, hkp⟩ := hrel
        have hB0 : Below w.heap.size w wr := hB1.trans (hb.mono (by omega))
        have hszk := hown.lt
        by_cases hlt : k < KK.length
        · obtain ⟨key, hx⟩ : ∃ x, KK[k]? = some x := ⟨_, List.getElem?_eq_getElem hlt⟩
          obtain ⟨A, m, hv, c1, c2, c3⟩ := HSLA.out
          cases hv
          obtain ⟨b', off, rfl, hbB, hc⟩ := c3 (by rintro rfl; simp at hlt)
          obtain ⟨cs, ⟨rfl, hkb⟩, _, hu⟩ := hc k _ hx
          have e0 : wr.cell? ⟨b', off + k, none⟩ = some (.string key) := (by unfold World.cell?; rw [hkp b' (by have := hbB.1; omega) hbB.2.1] : wr.cell? ⟨b', off + k, none⟩ = w4.cell? ⟨b', off + k, none⟩).trans (by simpa using hu 0 _ rfl)
          have hn1 := HKM.out key (List.mem_of_getElem? hx)
          have HX := hid (joinF_take hx F)
          have HJL := joinF_lens F (KK.take k)
          rw [List.length_take] at HJL
          generalize (KK.take k).flatMap (joinF F) = js at *
          have HL : Hid (js.length + [(key, F key)].length ≤ Few) := by unfold Hid Few; simp; omega
          have HKB := hid hkb
          have HC8 : Hid (∀ W, Below wr.heap.size wr W → (W.cell? ⟨w.heap.size, 0, none⟩ = some (.slice A1 a.es.length n1) ∧ W.cell? ⟨w.heap.size, 1, none⟩ = some (.slice A2 a.ks.length n2) ∧ W.cell? ⟨w.heap.size + 1, 0, none⟩ = some (.slice A3 b.es.length n3) ∧ W.cell? ⟨w.heap.size + 1, 1, none⟩ = some (.slice A4 b.ks.length n4)) ∧ Below w.heap.size w W) := fun W hW => by
            obtain ⟨q0, _, q1, q2, _⟩ := HW.out W (hb1'.out.trans ((hb.mono (by omega)).trans (hW.mono (by omega))))
            exact ⟨⟨cell_cells (i := 0) q1, cell_cells (i := 1) q1, cell_cells (i := 0) q2, cell_cells (i := 1) q2⟩, q0⟩
          have HRA : Hid (∀ W, Below wr.heap.size wr W → a.rd W W.heap.size (.slice A1 a.es.length n1) (.slice A2 a.ks.length n2)) := fun W hW => rd_below (HC8.out W hW).2 (HC8.out W hW).2.size _ _ _ HA.out
          have HRB : Hid (∀ W, Below wr.heap.size wr W → b.rd W W.heap.size (.slice A3 b.es.length n3) (.slice A4 b.ks.length n4)) := fun W hW => rd_below (HC8.out W hW).2 (HC8.out W hW).2.size _ _ _ HB.out
          obtain ⟨⟨q0, q1, q2, q3⟩, _⟩ := HC8.out wr (Below.refl _ _)
          have HIH := hid (ih (kidT a key) (kidT b key))
          have HDA := hid (kidT_dep HOA.out hda hn1 key)
          have HDB := hid (kidT_dep HOB.out hdb hn1 key)
          have HZA := hid (Nat.le_trans (kidT_sz a key) hza)
          have HZB := hid (Nat.le_trans (kidT_sz b key) hzb)
          have hFk := HF.out key
          have HFK := hid hFk
          clear hu hc c3 hx hkb hn1 hFk ih
          go_upto_region 12 with (fail)
          go_region_held3 (fun w' => w'.cell? ⟨w.heap.size, 0, none⟩ = some (.slice A1 a.es.length n1) ∧ w'.cell? ⟨w.heap.size, 1, none⟩ = some (.slice A2 a.ks.length n2) ∧ w'.cell? ⟨w.heap.size + 1, 0, none⟩ = some (.slice A3 b.es.length n3) ∧ w'.cell? ⟨w.heap.size + 1, 1, none⟩ = some (.slice A4 b.ks.length n4))
            (first | go_keep | exact (HC8.out _ hbk3.out).1 | exact (HC8.out _ (hbk3.out.alloc hbk3.out.size _)).1 | exact (HC8.out _ hbk2.out).1 | exact (HC8.out _ (hbk2.out.alloc hbk2.out.size _)).1 | exact (HC8.out _ hbk1.out).1 | exact (HC8.out _ (hbk1.out.alloc hbk1.out.size _)).1 | exact (HC8.out _ ((hbk3.out.setCell hge.out _).setCell hge.out _)).1)
            (first | (have hq := hbk2; go_at_call 130; go_loud ((refine (HIH.out _ _ _ _ _ _ _ (by first | exact HQA2.out | exact rd_below (below_via (Below.refl _ _)) (by simp) _ _ _ HQA2.out) (by first | exact HQB.out | exact rd_below (below_via (Below.refl _ _)) (by simp) _ _ _ HQB.out) (HCA.out _ (HC8.out _ (by first | exact hbk2.out | exact hbk2.out.alloc hbk2.out.size _)).2) (HCB.out _ (HC8.out _ (by first | exact hbk2.out | exact hbk2.out.alloc hbk2.out.size _)).2) (kidT_ord HOA.out key) (kidT_ord HOB.out key) HDA.out HDB.out HZA.out HZB.out).mono ?_); rw [← HFK.out]; rintro e w7 ⟨ve7, vk7, rfl, hrd7, hb⟩; obtain ⟨Av, nv, Aw, nw, rfl, rfl⟩ := rda_shape hrd7; have HR7 := hid hrd7; have hb' : Below w6.heap.size w6 w7 := (by first | exact hb | exact below_via hb); have hbk3 : Hid (Below wr.heap.size wr w7) := hbk2.out.trans (hb'.mono (by have := hbk2.out.size; simpa using this)); (try (have hnN := hid (lt_of_block hbox.out); have hbox := hid ((hb.block _ hnN.out).trans hbox.out))); (try (have hbox : Hid (w7.heap[w6.heap.size]? = some (.cells #[.slice none 0 0, .slice none 0 0] 25 (0, 0))) := (hb.block _ (by simp; done)).trans (heap_new rfl); have hnN : Hid (w6.heap.size < (w6.alloc (.cells #[.slice none 0 0, .slice none 0 0] 25)).heap.size) := (by unfold Hid; simp); have hge := hid hs6)); (try (have z0 := cells_frz (i := 0) hbox.out; have z1 := cells_frz (i := 1) hbox.out; have y0 := cell_cells (i := 0) hbox.out; have y1 := cell_cells (i := 1) hbox.out)); clear hrd7 hb hb'))
                   | (have hq := hbk1; go_at_call 155; go_loud ((refine (ckid_any b key _ _ _ (HRB.out _ (by first | exact hbk1.out | exact hbk1.out.alloc hbk1.out.size _)) HOB.out).mono ?_); rintro e w6 ⟨ve6, vk6, rfl, hrd6, hb⟩; have hb' : Below w5.heap.size w5 w6 := (by first | exact hb | exact below_via hb); have HQB := hid (rd_below hb hb.size _ _ _ hrd6); have HQA2 := hid (rd_below hb' hb'.size _ _ _ HQA.out); have hbk2 : Hid (Below wr.heap.size wr w6) := hbk1.out.trans (hb'.mono (by have := hbk1.out.size; simpa using this)); have hs6 := hbk2.out.size; (try (have hbox := hid ((hb.block _ (lt_of_block hbox.out)).trans hbox.out))); (try (have hbox : Hid (w6.heap[w5.heap.size]? = some (.cells #[.slice none 0 0, .slice none 0 0] 25 (0, 0))) := (hb.block _ (by simp; done)).trans (heap_new rfl); have hge := hid hs5)); clear hrd6 hb hb'))
                   | (go_at_call 155; go_loud ((refine (ckid_any a key _ _ _ (HRA.out _ (by go_grown)) HOA.out).mono ?_); rintro e w5 ⟨ve5, vk5, rfl, hrd5, hb⟩; have HQA := hid (rd_below hb hb.size _ _ _ hrd5); have hbk1 : Hid (Below wr.heap.size wr w5) := (Below.trans (by go_grown) (hb.mono (by simp))); have hs5 := hbk1.out.size; (try (have hbox : Hid (w5.heap[wr.heap.size]? = some (.cells #[.slice none 0 0, .slice none 0 0] 25 (0, 0))) := (hb.block _ (by simp; done)).trans (heap_new (by simp)); have hge := hid (Nat.le_refl wr.heap.size))); clear hrd5 hb)))
          all_goals (
            first
              | have hFIN := hid (fin_set hbox.out hge.out hbk3.out HR7.out hnN.out)
              | have hFIN := hid (fin_new (e := 25) hbk3.out HR7.out (by have := hbk2.out.size; simp; omega))
            have hge4 := hbk3.out.size
            obtain ⟨q4, q5, _, _⟩ := hFIN.out _ (Below.refl _ _)
            go_wp2_with fail
            refine (tempty_any _ _ _ _ _ _ _).mono ?_
            rintro e w8 ⟨rfl, hb8⟩
            obtain ⟨q6, q7, hb9, hrd9⟩ := hFIN.out _ hb8
            have hs9 := hb9.size
            have hg8 := (hb9.block w1.heap.size (by omega)).trans hg
            have hkp8 : ∀ b, w1.heap.size < b → b < w4.heap.size → w8.heap[b]? = w4.heap[b]? := fun b h1 h2 => (hb9.block b (by omega)).trans (hkp b h1 h2)
            have hown8 := hown.grow KdA.mon hb9
            clear q0 q1 q2 q3 q4 q5
            cases he : empB (F key).es.length (F key).ks.length
            · have HX2 : Hid ((KK.take (k + 1)).flatMap (joinF F) = js ++ [(key, F key)]) := by
                unfold Hid; rw [HX.out]; unfold joinF; rw [← empB_empty, he]; rfl
              have c9 : w8.cell? ⟨w1.heap.size, 1, none⟩ = some (.slice Ak js.length ck) := cell_cells (i := 1) hg8
              have hlt8 : w1.heap.size < w8.heap.size := by omega
              clear he
              go_wp2_with (at_builtin; go_loud ((with_reducible refine wpList_d (v := .slice Ak js.length ck) rfl (.tmp 63) (.tmp 67) _ rfl KdA.mon eiKid (by decide) (by decide) rfl (hown8.grow KdA.mon ((Below.refl _ w8).alloc (Nat.le_refl _) (.cells #[.string key, .slice Av (F key).es.length nv, .slice Aw (F key).ks.length nw] 73))) rfl (kid_one hrd9 HKB.out (fun b hb => ⟨hb.2, by have := hb.1; omega, by rw [World.size_alloc]; have := hb.2; omega, fun e => by have := hszk b e; have := hb.1; omega⟩) _ (by rw [World.size_alloc]; omega)) HL.out (by rw [World.size_alloc]; omega) ?_); intro v1 w9 hown9 hb10 _ _; have hsh9 : ∃ A c, v1 = .slice A (js ++ [(key, F key)]).length c := OwnP.shape hown9; obtain ⟨A1', c1', hv1⟩ := hsh9; subst hv1; have hg9 := hid ((hb10.block _ hlt4).trans ((heap_old hlt8).trans hg8)); have hc9 : w9.cell? ⟨w1.heap.size, 1, none⟩ = some (.slice Ak js.length ck) := cell_cells (i := 1) hg9.out; have hf9 := cells_frz (i := 1) hg9.out))
              have hb11 := ((hb9.mono (show w4.heap.size ≤ _ from hsz)).alloc (show w4.heap.size ≤ w8.heap.size by omega) _).trans hb10
              have hs11 := hb11.size
              go_roundw
              case rel =>
                refine ⟨k + 1, by omega, by go_num, A1', c1', ?_, ?_, ?_, ?_, ?_⟩
                · rw [HX2.out]; simpa using cells_set (i := 1) hg9.out (.slice A1' (js.length + 1) c1')
                · rw [HX2.out]; exact OwnD.setOther hown9 KdA.mon hlt4 (by simp; omega) _
                · simp [World.setCell]; omega
                · exact (hb.trans (hb11.mono (by omega))).setCell (by simp) _
                · intro b h1 h2
                  exact (Below.heap_setCell _ _ _ _ (by simp; omega)).trans ((hb11.block b h2).trans (hkp b h1 h2))
              case measure => simp [intOf]; omega
            · have HX2 : Hid ((KK.take (k + 1)).flatMap (joinF F) = js) := by
                unfold Hid; rw [HX.out]; unfold joinF; rw [← empB_empty, he]; simp
              clear he
              go_wp2_with fail
              go_roundw
              case rel => exact ⟨k + 1, by omega, by go_num, Ak, ck, by rw [HX2.out]; exact hg8, by rw [HX2.out]; exact hown8, by omega, hb.trans (hb9.mono (by omega)), hkp8⟩
              case measure => simp [intOf]; omega)
        · obtain rfl : k = KK.length := by omega
          rw [List.take_of_length_le (Nat.le_refl _)] at hg hown hszk
          have hJe : joinT (n + 1) ca cb a b = .mk E (KK.flatMap (joinF F)) := by
            rw [HJ.out, ← HKKe.out]
          have hjl := joinF_lens F KK
          generalize KK.flatMap (joinF F) = JS at *
          have c0 : wr.cell? ⟨w1.heap.size, 0, none⟩ = some (.slice Ae E.length ce) := cell_cells (i := 0) hg
          have c1 : wr.cell? ⟨w1.heap.size, 1, none⟩ = some (.slice Ak JS.length ck) := cell_cells (i := 1) hg
          have hg2 := (HW.out wr (hb1'.out.trans (hb.mono (by omega)))).2.2.2.2
          have d0 : wr.cell? ⟨w.heap.size + 2, 0, none⟩ = some (.slice none 0 0) := cell_cells (i := 0) hg2
          have d1 : wr.cell? ⟨w.heap.size + 2, 1, none⟩ = some (.slice none 0 0) := cell_cells (i := 1) hg2
          have z0 := cells_frz (i := 0) hg2
          have z1 := cells_frz (i := 1) hg2
          go_wp2_with fail
          have hW0 := cells_set (i := 1) (cells_set (i := 0) hg2 (.slice Ae E.length ce)) (.slice Ak JS.length ck)
          have hKW : ∀ b, w.heap.size + 3 ≤ b → ((wr.setCell ⟨w.heap.size + 2, 0, none⟩ (.slice Ae E.length ce)).setCell ⟨w.heap.size + 2, 1, none⟩ (.slice Ak JS.length ck)).heap[b]? = wr.heap[b]? := fun b hb => (Below.heap_setCell _ _ _ _ (by simp; omega)).trans (Below.heap_setCell _ _ _ _ (by simp; omega))
          have hSW : ((wr.setCell ⟨w.heap.size + 2, 0, none⟩ (.slice Ae E.length ce)).setCell ⟨w.heap.size + 2, 1, none⟩ (.slice Ak JS.length ck)).heap.size = wr.heap.size := by simp [World.setCell]
          have hBW : Below w.heap.size w ((wr.setCell ⟨w.heap.size + 2, 0, none⟩ (.slice Ae E.length ce)).setCell ⟨w.heap.size + 2, 1, none⟩ (.slice Ak JS.length ck)) := (hB0.setCell (by simp) _).setCell (by simp) _
          clear c0 c1 d0 d1 z0 z1
          generalize ((wr.setCell ⟨w.heap.size + 2, 0, none⟩ (.slice Ae E.length ce)).setCell ⟨w.heap.size + 2, 1, none⟩ (.slice Ak JS.length ck)) = W at *
          have r0 : W.cell? ⟨w.heap.size + 2, 0, none⟩ = some (.slice Ae E.length ce) := (cell_cells (i := 0) hW0).trans (by simp)
          have r1 : W.cell? ⟨w.heap.size + 2, 1, none⟩ = some (.slice Ak JS.length ck) := (cell_cells (i := 1) hW0).trans (by simp)
          refine bodyPost_ret (v := .agg #[.slice Ae E.length ce, .slice Ak JS.length ck]) (by simp [results, Tryz.results130, go_sem, r0, r1]) rfl ⟨_, _, rfl, ?_, hBW⟩
          rw [hJe, rda_iff]
          refine ⟨(HO1.out.sla (by unfold Big; omega)).up (fun b hb' => (hKW b (by have := hb'.1; simp only [World.size_alloc] at this; omega)).trans (hb.block b hb'.2.1)) (fun b hb' => ⟨by have := hb'.1; simp only [World.size_alloc] at this; omega, by have := hb'.2.1; omega⟩) (fun _ _ _ h => h), (OwnP.sla hown (by unfold Big; omega)).up (fun b hb' => hKW b (by have := hb'.1; omega)) (fun b hb' => ⟨by have := hb'.1; omega, by have := hb'.2.1; omega⟩) ?_⟩
          intro x _ cs hx
          exact KdA.mon.up (fun b hb' => hKW b (by have := hb'.1; omega)) (fun b hb' => ⟨by have := hb'.1; omega, by have := hb'.2.1; omega⟩) hx
end Go.Proofs.YtdcmjmcipgadlaaGreat

namespace Go.Proofs.YtdcmjmcipgadlaaGreat
open Go.RowKit
set_option maxRecDepth 100000

set_option maxHeartbeats 4000000 in
theorem cjoin_any (ca cb : List Sp) (n : Nat) (a b : Tr) (va ka vb kb vca vcb : Value) (w : World) (ha : a.rd w w.heap.size va ka) (hb : b.rd w w.heap.size vb kb) (hca : SlP w w.heap.size 3 SpE vca ca) (hcb : SlP w w.heap.size 3 SpE vcb cb) (hoa : a.Ord) (hob : b.Ord) (hda : a.dep ≤ n) (hdb : b.dep ≤ n) (hza : a.sz ≤ 100000) (hzb : b.sz ≤ 100000) (hra : apartB ca = true) (hrb : apartB cb = true) (hN1 : ca.length ≤ 20000) (hN2 : cb.length ≤ 20000) :
    Calls Tryz.prog 94 #[.agg #[va, ka, vca], .agg #[vb, kb, vcb]] w (RetC w (joinT n ca cb a b) (ctxBy ca cb 0)) := by
  have HA := hid ha
  have HB := hid hb
  have HCA : Hid (∀ w', Below w.heap.size w w' → SlP w' w'.heap.size 3 SpE vca ca) := fun w' hb => hca.imp hb hb.size fun _ _ _ h => h
  have HCB : Hid (∀ w', Below w.heap.size w w' → SlP w' w'.heap.size 3 SpE vcb cb) := fun w' hb => hcb.imp hb hb.size fun _ _ _ h => h
  have HR1 := hid hra
  have HR2 := hid hrb
  have hul := ctxByK_len ca cb 0 4
  have HUL : Hid ((ctxBy ca cb 0).length ≤ Big) := by unfold Hid ctxBy Big; omega
  obtain ⟨A1, n1, A2, n2, rfl, rfl⟩ := rd_shape ha
  obtain ⟨A3, n3, A4, n4, rfl, rfl⟩ := rd_shape hb
  obtain ⟨A5, n5, rfl, _⟩ := hca
  obtain ⟨A6, n6, rfl, _⟩ := hcb
  have HX : Hid (∀ W, Below (w.heap.size + 3) (((w.alloc (.cells #[.slice A1 a.es.length n1, .slice A2 a.ks.length n2, .slice A5 ca.length n5] 29)).alloc (.cells #[.slice A3 b.es.length n3, .slice A4 b.ks.length n4, .slice A6 cb.length n6] 29)).alloc (.cells #[.slice none 0 0, .slice none 0 0, .slice none 0 0] 29)) W → Below w.heap.size w W ∧ W.heap[w.heap.size + 2]? = some (.cells #[.slice none 0 0, .slice none 0 0, .slice none 0 0] 29 (0, 0)) ∧ w.heap.size + 3 ≤ W.heap.size ∧ (W.cell? ⟨w.heap.size, 0, none⟩ = some (.slice A1 a.es.length n1) ∧ W.cell? ⟨w.heap.size, 1, none⟩ = some (.slice A2 a.ks.length n2) ∧ W.cell? ⟨w.heap.size, 2, none⟩ = some (.slice A5 ca.length n5) ∧ W.cell? ⟨w.heap.size + 1, 0, none⟩ = some (.slice A3 b.es.length n3) ∧ W.cell? ⟨w.heap.size + 1, 1, none⟩ = some (.slice A4 b.ks.length n4) ∧ W.cell? ⟨w.heap.size + 1, 2, none⟩ = some (.slice A6 cb.length n6))) := fun W hW => by
    have g0 : W.heap[w.heap.size]? = some (.cells #[.slice A1 a.es.length n1, .slice A2 a.ks.length n2, .slice A5 ca.length n5] 29 (0, 0)) := (hW.block _ (by omega)).trans ((heap_old (by simp <;> omega)).trans ((heap_old (by simp)).trans (heap_new rfl)))
    have g1 : W.heap[w.heap.size + 1]? = some (.cells #[.slice A3 b.es.length n3, .slice A4 b.ks.length n4, .slice A6 cb.length n6] 29 (0, 0)) := (hW.block _ (by omega)).trans ((heap_old (by simp)).trans (heap_new (by simp)))
    have g2 : W.heap[w.heap.size + 2]? = some (.cells #[.slice none 0 0, .slice none 0 0, .slice none 0 0] 29 (0, 0)) := (hW.block _ (by omega)).trans (heap_new (by simp))
    exact ⟨((((Below.refl _ w).alloc (Nat.le_refl _) _).alloc (by simp) _).alloc (by simp; omega) _).trans (hW.mono (by omega)), g2, by have := hW.size; simpa using this, cell_cells (i := 0) g0, cell_cells (i := 1) g0, cell_cells (i := 2) g0, cell_cells (i := 0) g1, cell_cells (i := 1) g1, cell_cells (i := 2) g1⟩
  have hneA : w.heap.size + 1 + 1 ≠ w.heap.size := by omega
  have hneB : w.heap.size ≠ w.heap.size + 1 + 1 := by omega
  clear ha hb
  go_enter Tryz.func94, Tryz.ntmps94
  go_upto_region 1 with (fail)
  go_region_held3 (fun w' => w'.cell? ⟨w.heap.size, 0, none⟩ = some (.slice A1 a.es.length n1) ∧ w'.cell? ⟨w.heap.size, 1, none⟩ = some (.slice A2 a.ks.length n2) ∧ w'.cell? ⟨w.heap.size, 2, none⟩ = some (.slice A5 ca.length n5) ∧ w'.cell? ⟨w.heap.size + 1, 0, none⟩ = some (.slice A3 b.es.length n3) ∧ w'.cell? ⟨w.heap.size + 1, 1, none⟩ = some (.slice A4 b.ks.length n4) ∧ w'.cell? ⟨w.heap.size + 1, 2, none⟩ = some (.slice A6 cb.length n6))
    (first | go_keep | exact (HX.out _ hbk2.out).2.2.2 | exact (HX.out _ hbk1.out).2.2.2)
    (first | (go_at_call 130; go_loud ((refine (ctrees_any ca cb (by omega) (by omega) n a b _ _ _ _ _ _ _ (rd_below (HX.out _ (by go_grown)).1 (HX.out _ (by go_grown)).1.size _ _ _ HA.out) (rd_below (HX.out _ (by go_grown)).1 (HX.out _ (by go_grown)).1.size _ _ _ HB.out) (HCA.out _ (HX.out _ (by go_grown)).1) (HCB.out _ (HX.out _ (by go_grown)).1) hoa hob hda hdb hza hzb).mono ?_); rintro e w1 ⟨ve1, vk1, rfl, hrd1, hb⟩; obtain ⟨Av, nv, Aw, nw, rfl, rfl⟩ := rda_shape hrd1; have HR := hid hrd1; have hbk1 : Hid (Below (w.heap.size + 3) (((w.alloc (.cells #[.slice A1 a.es.length n1, .slice A2 a.ks.length n2, .slice A5 ca.length n5] 29)).alloc (.cells #[.slice A3 b.es.length n3, .slice A4 b.ks.length n4, .slice A6 cb.length n6] 29)).alloc (.cells #[.slice none 0 0, .slice none 0 0, .slice none 0 0] 29)) w1) := (Below.trans (by go_grown) (hb.mono (by simp))); clear hrd1 hb))
           | (go_at_call 82; go_loud ((refine (cunion_any ca cb _ _ w1 (HCA.out _ (HX.out _ hbk1.out).1) (HCB.out _ (HX.out _ hbk1.out).1) HR1.out HR2.out hN1 hN2).mono ?_); rintro e w2 ⟨v2, rfl, ho2, hb2⟩; obtain ⟨A7, c7, hv7⟩ := ho2.shape; subst hv7; have HO2 := hid ho2; have hbk2 := hid (hbk1.out.trans (hb2.mono (HX.out _ hbk1.out).2.2.1)); have HG2 := hid (HX.out _ hbk2.out).2.1; have k0 : w2.cell? ⟨w.heap.size + 2, 0, none⟩ = some (.slice none 0 0) := cell_cells (i := 0) HG2.out; have k1 : w2.cell? ⟨w.heap.size + 2, 1, none⟩ = some (.slice none 0 0) := cell_cells (i := 1) HG2.out; have k2 : w2.cell? ⟨w.heap.size + 2, 2, none⟩ = some (.slice none 0 0) := cell_cells (i := 2) HG2.out; have z0 := cells_frz (i := 0) HG2.out; have z1 := cells_frz (i := 1) HG2.out; have z2 := cells_frz (i := 2) HG2.out; have HB2 := hid hb2; clear ho2 hb2)))
  all_goals (
    go_wp2_with fail
    have hs2 : w.heap.size + 3 ≤ w2.heap.size := (HX.out _ hbk2.out).2.2.1
    have hs1 : w.heap.size + 3 ≤ w1.heap.size := (HX.out _ hbk1.out).2.2.1
    have hs12 := HB2.out.size
    obtain ⟨r0, r1, r2, hK, hS⟩ := box3 HG2.out (.slice Av (joinT n ca cb a b).es.length nv) (.slice Aw (joinT n ca cb a b).ks.length nw) (.slice A7 (ctxBy ca cb 0).length c7)
    have hBW : Below w.heap.size w (((w2.setCell ⟨w.heap.size + 2, 0, none⟩ (.slice Av (joinT n ca cb a b).es.length nv)).setCell ⟨w.heap.size + 2, 1, none⟩ (.slice Aw (joinT n ca cb a b).ks.length nw)).setCell ⟨w.heap.size + 2, 2, none⟩ (.slice A7 (ctxBy ca cb 0).length c7)) := (((HX.out _ hbk2.out).1.setCell (by simp) _).setCell (by simp) _).setCell (by simp) _
    clear k0 k1 k2 z0 z1 z2
    generalize (((w2.setCell ⟨w.heap.size + 2, 0, none⟩ (.slice Av (joinT n ca cb a b).es.length nv)).setCell ⟨w.heap.size + 2, 1, none⟩ (.slice Aw (joinT n ca cb a b).ks.length nw)).setCell ⟨w.heap.size + 2, 2, none⟩ (.slice A7 (ctxBy ca cb 0).length c7)) = W at *
    refine bodyPost_ret (v := .agg #[.slice Av (joinT n ca cb a b).es.length nv, .slice Aw (joinT n ca cb a b).ks.length nw, .slice A7 (ctxBy ca cb 0).length c7]) (by simp [results, Tryz.results94, go_sem, r0, r1, r2]) rfl ⟨_, _, _, rfl, ?_, ?_, hBW⟩
    · exact rda_up (fun b hb => (hK b (by have := hb.1; simp only [World.size_alloc, World.size_drew] at this; omega)).trans (HB2.out.block b hb.2)) (fun b hb => ⟨by have := hb.1; simp only [World.size_alloc, World.size_drew] at this; omega, by have := hb.2; omega⟩) _ _ _ HR.out
    · exact (HO2.out.sla HUL.out).up (fun b hb => hK b (by have := hb.1; omega)) (fun b hb => ⟨by have := hb.1; omega, by have := hb.2.1; omega⟩) (fun _ _ _ h => h))
end Go.Proofs.YtdcmjmcipgadlaaGreat

namespace Go.Proofs.YtdcmjmcipgadlaaGreat
open Go.RowKit
set_option maxRecDepth 100000

theorem caR_right {t : Tr} {c : List Sp} (h : caR t c = true) : t.right 5 = true := by unfold caR at h; simp at h; exact h.1
theorem caR_apart {t : Tr} {c : List Sp} (h : caR t c = true) : apartB c = true := by rw [caR_r9] at h; unfold r9R at h; simp at h; exact h.2.1
theorem caR_ord {t : Tr} {c : List Sp} (h : caR t c = true) : t.Ord := right_ord t 5 (caR_right h)
theorem caR_dep {t : Tr} {c : List Sp} (h : caR t c = true) : t.dep ≤ 6 := by have := right_dep t 5 (caR_right h); omega
/-- The error's number, the tree and the context of two joined. -/
def jnE (a b : Tr) (ca cb : List Sp) : Int := if caR a ca && caR b cb then 0 else 1
def jnT (a b : Tr) (ca cb : List Sp) : Tr := if caR a ca && caR b cb then joinT 6 ca cb a b else .mk [] []
def jnC (a b : Tr) (ca cb : List Sp) : List Sp := if caR a ca && caR b cb then ctxBy ca cb 0 else []
set_option maxHeartbeats 4000000 in
theorem cJoin_any (ca cb : List Sp) (a b : Tr) (va ka vb kb vca vcb : Value) (w : World) (ha : a.rd w w.heap.size va ka) (hb : b.rd w w.heap.size vb kb) (hca : SlP w w.heap.size 3 SpE vca ca) (hcb : SlP w w.heap.size 3 SpE vcb cb) (hza : a.sz ≤ 4000) (hzb : b.sz ≤ 4000) (hN1 : ca.length ≤ 20000) (hN2 : cb.length ≤ 20000) :
    Calls Tryz.prog 49 #[.agg #[va, ka, vca], .agg #[vb, kb, vcb]] w (RetCE w (jnT a b ca cb) (jnC a b ca cb) (jnE a b ca cb)) := by
  have HA := hid ha
  have HB := hid hb
  have HCA : Hid (∀ w', Below w.heap.size w w' → SlP w' w'.heap.size 3 SpE vca ca) := fun w' hb => hca.imp hb hb.size fun _ _ _ h => h
  have HCB : Hid (∀ w', Below w.heap.size w w' → SlP w' w'.heap.size 3 SpE vcb cb) := fun w' hb => hcb.imp hb hb.size fun _ _ _ h => h
  obtain ⟨A1, n1, A2, n2, rfl, rfl⟩ := rd_shape ha
  obtain ⟨A3, n3, A4, n4, rfl, rfl⟩ := rd_shape hb
  obtain ⟨A5, n5, rfl, _⟩ := hca
  obtain ⟨A6, n6, rfl, _⟩ := hcb
  have HX : Hid (∀ W, Below (w.heap.size + 3) (((w.alloc (.cells #[.slice A1 a.es.length n1, .slice A2 a.ks.length n2, .slice A5 ca.length n5] 29)).alloc (.cells #[.slice A3 b.es.length n3, .slice A4 b.ks.length n4, .slice A6 cb.length n6] 29)).alloc (.cells #[.slice none 0 0, .slice none 0 0, .slice none 0 0] 29)) W → Below w.heap.size w W ∧ W.heap[w.heap.size + 2]? = some (.cells #[.slice none 0 0, .slice none 0 0, .slice none 0 0] 29 (0, 0)) ∧ w.heap.size + 3 ≤ W.heap.size ∧ (W.cell? ⟨w.heap.size, 0, none⟩ = some (.slice A1 a.es.length n1) ∧ W.cell? ⟨w.heap.size, 1, none⟩ = some (.slice A2 a.ks.length n2) ∧ W.cell? ⟨w.heap.size, 2, none⟩ = some (.slice A5 ca.length n5) ∧ W.cell? ⟨w.heap.size + 1, 0, none⟩ = some (.slice A3 b.es.length n3) ∧ W.cell? ⟨w.heap.size + 1, 1, none⟩ = some (.slice A4 b.ks.length n4) ∧ W.cell? ⟨w.heap.size + 1, 2, none⟩ = some (.slice A6 cb.length n6))) := fun W hW => by
    have g0 : W.heap[w.heap.size]? = some (.cells #[.slice A1 a.es.length n1, .slice A2 a.ks.length n2, .slice A5 ca.length n5] 29 (0, 0)) := (hW.block _ (by omega)).trans ((heap_old (by simp <;> omega)).trans ((heap_old (by simp)).trans (heap_new rfl)))
    have g1 : W.heap[w.heap.size + 1]? = some (.cells #[.slice A3 b.es.length n3, .slice A4 b.ks.length n4, .slice A6 cb.length n6] 29 (0, 0)) := (hW.block _ (by omega)).trans ((heap_old (by simp)).trans (heap_new (by simp)))
    have g2 : W.heap[w.heap.size + 2]? = some (.cells #[.slice none 0 0, .slice none 0 0, .slice none 0 0] 29 (0, 0)) := (hW.block _ (by omega)).trans (heap_new (by simp))
    exact ⟨((((Below.refl _ w).alloc (Nat.le_refl _) _).alloc (by simp) _).alloc (by simp; omega) _).trans (hW.mono (by omega)), g2, by have := hW.size; simpa using this, cell_cells (i := 0) g0, cell_cells (i := 1) g0, cell_cells (i := 2) g0, cell_cells (i := 0) g1, cell_cells (i := 1) g1, cell_cells (i := 2) g1⟩
  clear ha hb
  go_enter Tryz.func49, Tryz.ntmps49
  cases hc1 : caR a ca
  · have HR1 := hid hc1
    have HR2 : Hid (caR b cb = caR b cb) := rfl
    have HE : Hid (jnE a b ca cb = 1) := by unfold Hid jnE; rw [hc1]; rfl
    have HTT : Hid (jnT a b ca cb = .mk [] []) := by unfold Hid jnT; rw [hc1]; rfl
    have HCC : Hid (jnC a b ca cb = []) := by unfold Hid jnC; rw [hc1]; rfl
    clear hc1
    have hB0 := (HX.out _ (Below.refl _ _)).1
    go_wp2_with fail
    refine (caright_any a ca _ _ _ _ (rd_below hB0 hB0.size _ _ _ HA.out) (HCA.out _ hB0) hza hN1).mono ?_
    rw [HR1.out]
    rintro e w1 ⟨rfl, hb1⟩
    have hbq1 := hid (hb1.mono (show w.heap.size + 3 ≤ _ by simp))
    clear hb1 hB0
    obtain ⟨hB1, hG, hsq, q0, q1, q2, q3, q4, q5⟩ := HX.out w1 hbq1.out
    have HG := hid hG
    have k0 : (w1).cell? ⟨w.heap.size + 2, 0, none⟩ = some (.slice none 0 0) := cell_cells (i := 0) HG.out
    have k1 : (w1).cell? ⟨w.heap.size + 2, 1, none⟩ = some (.slice none 0 0) := cell_cells (i := 1) HG.out
    have k2 : (w1).cell? ⟨w.heap.size + 2, 2, none⟩ = some (.slice none 0 0) := cell_cells (i := 2) HG.out
    have z0 := cells_frz (i := 0) HG.out
    have z1 := cells_frz (i := 1) HG.out
    have z2 := cells_frz (i := 2) HG.out
    clear hG
    go_wp2_with fail
    obtain ⟨r0, r1, r2, hK, hS⟩ := box3 HG.out (.slice none 0 0) (.slice none 0 0) (.slice none 0 0)
    have hBW := ((hB1.setCell (p := ⟨w.heap.size + 2, 0, none⟩) (by simp) (.slice none 0 0)).setCell (p := ⟨w.heap.size + 2, 1, none⟩) (by simp) (.slice none 0 0)).setCell (p := ⟨w.heap.size + 2, 2, none⟩) (by simp) (.slice none 0 0)
    refine bodyPost_ret (v := .tuple #[.agg #[.slice none 0 0, .slice none 0 0, .slice none 0 0], .int .i64 1]) (by simp [results, Tryz.results49, go_sem, r0, r1, r2]) rfl ⟨_, _, _, by rw [HE.out], ?_, ?_, hBW⟩
    · rw [HTT.out]; exact rda_nil _ _
    · rw [HCC.out]; exact SlA.nil
  cases hc2 : caR b cb
  · have HR1 := hid hc1
    have HR2 := hid hc2
    have HE : Hid (jnE a b ca cb = 1) := by unfold Hid jnE; rw [hc1, hc2]; rfl
    have HTT : Hid (jnT a b ca cb = .mk [] []) := by unfold Hid jnT; rw [hc1, hc2]; rfl
    have HCC : Hid (jnC a b ca cb = []) := by unfold Hid jnC; rw [hc1, hc2]; rfl
    clear hc1 hc2
    have hB0 := (HX.out _ (Below.refl _ _)).1
    go_wp2_with fail
    refine (caright_any a ca _ _ _ _ (rd_below hB0 hB0.size _ _ _ HA.out) (HCA.out _ hB0) hza hN1).mono ?_
    rw [HR1.out]
    rintro e w1 ⟨rfl, hb1⟩
    have hbq1 := hid (hb1.mono (show w.heap.size + 3 ≤ _ by simp))
    clear hb1 hB0
    obtain ⟨hB1, hG, hsq, q0, q1, q2, q3, q4, q5⟩ := HX.out w1 hbq1.out
    have HG := hid hG
    have k0 : (w1).cell? ⟨w.heap.size + 2, 0, none⟩ = some (.slice none 0 0) := cell_cells (i := 0) HG.out
    have k1 : (w1).cell? ⟨w.heap.size + 2, 1, none⟩ = some (.slice none 0 0) := cell_cells (i := 1) HG.out
    have k2 : (w1).cell? ⟨w.heap.size + 2, 2, none⟩ = some (.slice none 0 0) := cell_cells (i := 2) HG.out
    have z0 := cells_frz (i := 0) HG.out
    have z1 := cells_frz (i := 1) HG.out
    have z2 := cells_frz (i := 2) HG.out
    clear hG
    go_wp2_with fail
    refine (caright_any b cb _ _ _ w1 (rd_below hB1 hB1.size _ _ _ HB.out) (HCB.out _ hB1) hzb hN2).mono ?_
    rw [HR2.out]
    rintro e w2 ⟨rfl, hb2⟩
    have hbq2 := hid (hbq1.out.trans (hb2.mono hsq))
    clear hb2 hB1 k0 k1 k2 z0 z1 z2 q0 q1 q2 q3 q4 q5 hsq HG
    obtain ⟨hB1, hG, hsq, q0, q1, q2, q3, q4, q5⟩ := HX.out w2 hbq2.out
    have HG := hid hG
    have k0 : (w2).cell? ⟨w.heap.size + 2, 0, none⟩ = some (.slice none 0 0) := cell_cells (i := 0) HG.out
    have k1 : (w2).cell? ⟨w.heap.size + 2, 1, none⟩ = some (.slice none 0 0) := cell_cells (i := 1) HG.out
    have k2 : (w2).cell? ⟨w.heap.size + 2, 2, none⟩ = some (.slice none 0 0) := cell_cells (i := 2) HG.out
    have z0 := cells_frz (i := 0) HG.out
    have z1 := cells_frz (i := 1) HG.out
    have z2 := cells_frz (i := 2) HG.out
    clear hG
    go_wp2_with fail
    obtain ⟨r0, r1, r2, hK, hS⟩ := box3 HG.out (.slice none 0 0) (.slice none 0 0) (.slice none 0 0)
    have hBW := ((hB1.setCell (p := ⟨w.heap.size + 2, 0, none⟩) (by simp) (.slice none 0 0)).setCell (p := ⟨w.heap.size + 2, 1, none⟩) (by simp) (.slice none 0 0)).setCell (p := ⟨w.heap.size + 2, 2, none⟩) (by simp) (.slice none 0 0)
    refine bodyPost_ret (v := .tuple #[.agg #[.slice none 0 0, .slice none 0 0, .slice none 0 0], .int .i64 1]) (by simp [results, Tryz.results49, go_sem, r0, r1, r2]) rfl ⟨_, _, _, by rw [HE.out], ?_, ?_, hBW⟩
    · rw [HTT.out]; exact rda_nil _ _
    · rw [HCC.out]; exact SlA.nil
  · have HR1 := hid hc1
    have HR2 := hid hc2
    have HE : Hid (jnE a b ca cb = 0) := by unfold Hid jnE; rw [hc1, hc2]; rfl
    have HTT : Hid (jnT a b ca cb = joinT 6 ca cb a b) := by unfold Hid jnT; rw [hc1, hc2]; rfl
    have HCC : Hid (jnC a b ca cb = ctxBy ca cb 0) := by unfold Hid jnC; rw [hc1, hc2]; rfl
    have HOA := hid (caR_ord hc1)
    have HOB := hid (caR_ord hc2)
    have HDA := hid (caR_dep hc1)
    have HDB := hid (caR_dep hc2)
    have HPA := hid (caR_apart hc1)
    have HPB := hid (caR_apart hc2)
    clear hc1 hc2
    have hB0 := (HX.out _ (Below.refl _ _)).1
    go_wp2_with fail
    refine (caright_any a ca _ _ _ _ (rd_below hB0 hB0.size _ _ _ HA.out) (HCA.out _ hB0) hza hN1).mono ?_
    rw [HR1.out]
    rintro e w1 ⟨rfl, hb1⟩
    have hbq1 := hid (hb1.mono (show w.heap.size + 3 ≤ _ by simp))
    clear hb1 hB0
    obtain ⟨hB1, hG, hsq, q0, q1, q2, q3, q4, q5⟩ := HX.out w1 hbq1.out
    have HG := hid hG
    have k0 : (w1).cell? ⟨w.heap.size + 2, 0, none⟩ = some (.slice none 0 0) := cell_cells (i := 0) HG.out
    have k1 : (w1).cell? ⟨w.heap.size + 2, 1, none⟩ = some (.slice none 0 0) := cell_cells (i := 1) HG.out
    have k2 : (w1).cell? ⟨w.heap.size + 2, 2, none⟩ = some (.slice none 0 0) := cell_cells (i := 2) HG.out
    have z0 := cells_frz (i := 0) HG.out
    have z1 := cells_frz (i := 1) HG.out
    have z2 := cells_frz (i := 2) HG.out
    clear hG
    go_wp2_with fail
    refine (caright_any b cb _ _ _ w1 (rd_below hB1 hB1.size _ _ _ HB.out) (HCB.out _ hB1) hzb hN2).mono ?_
    rw [HR2.out]
    rintro e w2 ⟨rfl, hb2⟩
    have hbq2 := hid (hbq1.out.trans (hb2.mono hsq))
    clear hb2 hB1 k0 k1 k2 z0 z1 z2 q0 q1 q2 q3 q4 q5 hsq HG
    obtain ⟨hB1, hG, hsq, q0, q1, q2, q3, q4, q5⟩ := HX.out w2 hbq2.out
    have HG := hid hG
    have k0 : (w2).cell? ⟨w.heap.size + 2, 0, none⟩ = some (.slice none 0 0) := cell_cells (i := 0) HG.out
    have k1 : (w2).cell? ⟨w.heap.size + 2, 1, none⟩ = some (.slice none 0 0) := cell_cells (i := 1) HG.out
    have k2 : (w2).cell? ⟨w.heap.size + 2, 2, none⟩ = some (.slice none 0 0) := cell_cells (i := 2) HG.out
    have z0 := cells_frz (i := 0) HG.out
    have z1 := cells_frz (i := 1) HG.out
    have z2 := cells_frz (i := 2) HG.out
    clear hG
    go_wp2_with fail
    refine (cjoin_any ca cb 6 a b _ _ _ _ _ _ w2 (rd_below hB1 hB1.size _ _ _ HA.out) (rd_below hB1 hB1.size _ _ _ HB.out) (HCA.out _ hB1) (HCB.out _ hB1) HOA.out HOB.out HDA.out HDB.out (by omega) (by omega) HPA.out HPB.out hN1 hN2).mono ?_
    rintro e w5 ⟨ve, vk, vc, rfl, hrd5, hsl5, hb5⟩
    obtain ⟨A7, n7, A8, n8, rfl, rfl⟩ := rda_shape hrd5
    have HS5 := hid hsl5
    obtain ⟨A9, n9, hv9, _⟩ := hsl5
    subst hv9
    have HR5 := hid hrd5
    have hs25 := hb5.size
    have hs2 := hsq
    have hbq5 := hid (hbq2.out.trans (hb5.mono hsq))
    clear hrd5 hb5 hB1 k0 k1 k2 z0 z1 z2 q0 q1 q2 q3 q4 q5 hsq HG
    obtain ⟨hB1, hG, hsq, q0, q1, q2, q3, q4, q5⟩ := HX.out w5 hbq5.out
    have HG := hid hG
    have k0 : (w5).cell? ⟨w.heap.size + 2, 0, none⟩ = some (.slice none 0 0) := cell_cells (i := 0) HG.out
    have k1 : (w5).cell? ⟨w.heap.size + 2, 1, none⟩ = some (.slice none 0 0) := cell_cells (i := 1) HG.out
    have k2 : (w5).cell? ⟨w.heap.size + 2, 2, none⟩ = some (.slice none 0 0) := cell_cells (i := 2) HG.out
    have z0 := cells_frz (i := 0) HG.out
    have z1 := cells_frz (i := 1) HG.out
    have z2 := cells_frz (i := 2) HG.out
    clear hG
    go_wp2_with fail
    obtain ⟨r0, r1, r2, hK, hS⟩ := box3 HG.out (.slice A7 (joinT 6 ca cb a b).es.length n7) (.slice A8 (joinT 6 ca cb a b).ks.length n8) (.slice A9 (ctxBy ca cb 0).length n9)
    have hBW : Below w.heap.size w (((w5.setCell ⟨w.heap.size + 2, 0, none⟩ (.slice A7 (joinT 6 ca cb a b).es.length n7)).setCell ⟨w.heap.size + 2, 1, none⟩ (.slice A8 (joinT 6 ca cb a b).ks.length n8)).setCell ⟨w.heap.size + 2, 2, none⟩ (.slice A9 (ctxBy ca cb 0).length n9)) := ((hB1.setCell (by simp) _).setCell (by simp) _).setCell (by simp) _
    clear k0 k1 k2 z0 z1 z2
    generalize (((w5.setCell ⟨w.heap.size + 2, 0, none⟩ (.slice A7 (joinT 6 ca cb a b).es.length n7)).setCell ⟨w.heap.size + 2, 1, none⟩ (.slice A8 (joinT 6 ca cb a b).ks.length n8)).setCell ⟨w.heap.size + 2, 2, none⟩ (.slice A9 (ctxBy ca cb 0).length n9)) = W at *
    refine bodyPost_ret (v := .tuple #[.agg #[.slice A7 (joinT 6 ca cb a b).es.length n7, .slice A8 (joinT 6 ca cb a b).ks.length n8, .slice A9 (ctxBy ca cb 0).length n9], .int .i64 0]) (by simp [results, Tryz.results49, go_sem, r0, r1, r2]) rfl ⟨_, _, _, by rw [HE.out], ?_, ?_, hBW⟩
    · rw [HTT.out]
      exact rda_up (fun b hb => hK b (by have := hb.1; omega)) (fun b hb => ⟨by have := hb.1; omega, by have := hb.2; omega⟩) _ _ _ HR5.out
    · rw [HCC.out]
      exact HS5.out.up (fun b hb => hK b (by have := hb.1; omega)) (fun b hb => ⟨by have := hb.1; omega, by have := hb.2; omega⟩) (fun _ _ _ h => h)
end Go.Proofs.YtdcmjmcipgadlaaGreat

namespace Go.Proofs.YtdcmjmcipgadlaaGreat
open Go.RowKit
set_option maxRecDepth 100000

def T9 : Tr := .mk [⟨1, 1, ByteArray.empty, 0⟩] []
def C9 : List Sp := [⟨1, 1, 1⟩]
theorem jn9_ok : (caR T9 C9 && caR (.mk [] []) []) = true := by kernel_rfl
theorem jn9_T : jnT T9 (.mk [] []) C9 [] = T9 := by
  unfold jnT; rw [jn9_ok, if_pos rfl, joinT]
  have h1 : entL C9 [] T9.es (Tr.mk [] []).es = T9.es := by
    show entL C9 [] [⟨1, 1, ByteArray.empty, 0⟩] [] = _
    rw [entL, entL]; rfl
  have h2 : joinK T9 (.mk [] []) = [] := by simp [joinK, T9, Tr.ks, srtL, cmpL, Lib.compact, Lib.compactUpTo]
  rw [h1, h2]; rfl
theorem jn9_C : jnC T9 (.mk [] []) C9 [] = C9 := by
  unfold jnC; rw [jn9_ok, if_pos rfl]; kernel_rfl
set_option maxHeartbeats 4000000 in
theorem awake09_any (w : World) : Calls Tryz.prog 46 #[] w fun e w' => e = .returned (.bool true) ∧ Below w.heap.size w w' := by
  have HX : Hid (∀ W, Below (w.heap.size + 4) ((((w.alloc (.cells #[.int .i64 1, .int .i64 1] 47)).alloc (.cells #[.int .i64 1, .int .i64 1, .string ByteArray.empty, .int .i64 0] 56)).alloc (.cells #[.int .i64 1, .int .i64 1, .int .i64 1] 79)).alloc (.cells #[.slice (some ⟨w.heap.size + 1, 0, none⟩) 1 1, .slice none 0 0, .slice (some ⟨w.heap.size + 1 + 1, 0, none⟩) 1 1] 29)) W → Below w.heap.size w W ∧ T9.rd W W.heap.size (.slice (some ⟨w.heap.size + 1, 0, none⟩) 1 1) (.slice none 0 0) ∧ SlP W W.heap.size 3 SpE (.slice (some ⟨w.heap.size + 1 + 1, 0, none⟩) 1 1) C9 ∧ w.heap.size + 4 ≤ W.heap.size ∧ (W.cell? ⟨w.heap.size + 3, 0, none⟩ = some (.slice (some ⟨w.heap.size + 1, 0, none⟩) 1 1) ∧ W.cell? ⟨w.heap.size + 3, 1, none⟩ = some (.slice none 0 0) ∧ W.cell? ⟨w.heap.size + 3, 2, none⟩ = some (.slice (some ⟨w.heap.size + 1 + 1, 0, none⟩) 1 1))) := fun W hW => by
    have hs : w.heap.size + 4 ≤ W.heap.size := by have := hW.size; simpa using this
    have g1 : W.heap[w.heap.size + 1]? = some (.cells #[.int .i64 1, .int .i64 1, .string ByteArray.empty, .int .i64 0] 56 (0, 0)) := (hW.block _ (by omega)).trans ((heap_old (by simp <;> omega)).trans ((heap_old (by simp)).trans (heap_new (by simp))))
    have g2 : W.heap[w.heap.size + 1 + 1]? = some (.cells #[.int .i64 1, .int .i64 1, .int .i64 1] 79 (0, 0)) := (hW.block _ (by omega)).trans ((heap_old (by simp)).trans (heap_new (by simp)))
    have g3 : W.heap[w.heap.size + 3]? = some (.cells #[.slice (some ⟨w.heap.size + 1, 0, none⟩) 1 1, .slice none 0 0, .slice (some ⟨w.heap.size + 1 + 1, 0, none⟩) 1 1] 29 (0, 0)) := (hW.block _ (by omega)).trans (heap_new (by simp))
    refine ⟨(((((Below.refl _ w).alloc (Nat.le_refl _) _).alloc (by simp) _).alloc (by simp; omega) _).alloc (by simp; omega) _).trans (hW.mono (by omega)), ?_, ?_, hs, cell_cells (i := 0) g3, cell_cells (i := 1) g3, cell_cells (i := 2) g3⟩
    · exact rd_iff.2 ⟨SlA.one (x := (⟨1, 1, ByteArray.empty, 0⟩ : En)) (cs := [.int .i64 1, .int .i64 1, .string ByteArray.empty, .int .i64 0]) ⟨rfl, ⟨by decide, by decide⟩, ⟨by decide, by decide⟩, ⟨by decide, by decide⟩, by decide⟩ rfl g1 (by omega), SlP.nil⟩
    · exact SlA.one (x := (⟨1, 1, 1⟩ : Sp)) (cs := [.int .i64 1, .int .i64 1, .int .i64 1]) ⟨rfl, ⟨by decide, by decide⟩, ⟨by decide, by decide⟩, ⟨by decide, by decide⟩⟩ rfl g2 (by omega)
  have hE : jnE T9 (.mk [] []) C9 [] = 0 := by unfold jnE; rw [jn9_ok]; rfl
  have hT : jnT T9 (.mk [] []) C9 [] = T9 := jn9_T
  have hC : jnC T9 (.mk [] []) C9 [] = C9 := jn9_C
  have HR : Hid (caR T9 C9 = true) := by have := jn9_ok; rw [Bool.and_eq_true] at this; exact this.1
  have HZ : Hid (T9.sz ≤ 4000 ∧ C9.length ≤ 20000) := by unfold Hid; decide
  go_enter Tryz.func46, Tryz.ntmps46
  go_wp2_with fail
  have h1 := HX.out _ (Below.refl _ _)
  refine (cJoin_any C9 [] T9 (.mk [] []) _ _ _ _ _ _ ((((w.alloc (.cells #[.int .i64 1, .int .i64 1] 47)).alloc (.cells #[.int .i64 1, .int .i64 1, .string ByteArray.empty, .int .i64 0] 56)).alloc (.cells #[.int .i64 1, .int .i64 1, .int .i64 1] 79)).alloc (.cells #[.slice (some ⟨w.heap.size + 1, 0, none⟩) 1 1, .slice none 0 0, .slice (some ⟨w.heap.size + 1 + 1, 0, none⟩) 1 1] 29)) h1.2.1 rd_empty h1.2.2.1 SlP.nil HZ.out.1 (by decide) HZ.out.2 (by decide)).mono ?_
  rw [hE, hT, hC]
  rintro e w1 ⟨ve, vk, vc, rfl, hrd, hsc, hb1⟩
  clear h1 hE hT hC
  generalize T9 = T at *
  generalize C9 = C at *
  obtain ⟨Ae, ne, Ak, nk, rfl, rfl⟩ := rda_shape hrd
  obtain ⟨Ac, nc, rfl⟩ := hsc.shape
  have hbk1 := hid (hb1.mono (show w.heap.size + 4 ≤ _ by simp))
  have HT : Hid (∀ w', Below w1.heap.size w1 w' → T.rd w' w'.heap.size (.slice Ae T.es.length ne) (.slice Ak T.ks.length nk)) := fun w' hb => rda_rd hrd (fun b hb => hb.2) hb
  have HCt : Hid (∀ w', Below w1.heap.size w1 w' → SlP w' w'.heap.size 3 SpE (.slice Ac C.length nc) C) := fun w' hb => hsc.slp (fun b hb => hb.2) hb
  obtain ⟨hB1, hr1, hc1, hs1, q0, q1, q2⟩ := HX.out w1 hbk1.out
  have hlt : w.heap.size + 3 < w1.heap.size := by omega
  have hne : w.heap.size + 3 ≠ w1.heap.size := by omega
  clear hrd hsc hb1 hr1 hc1
  go_wp2_with fail
  have hv1 := below_via (Below.refl _ (w1.alloc (.cells #[.slice Ae T.es.length ne, .slice Ak T.ks.length nk, .slice Ac C.length nc] 29)))
  have h2 := HX.out _ (hbk1.out.trans (hv1.mono hs1))
  have hSM : (trEq T T && decide (C = C)) = true := by simp [trEq]
  refine (r09same_any T T C C _ _ _ _ _ _ _ (HT.out _ hv1) h2.2.1 (HCt.out _ hv1) h2.2.2.1).mono ?_
  rw [hSM]
  rintro e w2 ⟨rfl, hb2⟩
  have hbk2 := hid (hbk1.out.trans ((hv1.trans (hb2.mono (by simp))).mono hs1))
  obtain ⟨hB2, hr2, hc2, hs2, q3, q4, q5⟩ := HX.out w2 hbk2.out
  clear h2 hv1 hSM hb2 q0 q1 q2
  go_wp2_with fail
  refine (caright_any T C _ _ _ w2 hr2 hc2 HZ.out.1 HZ.out.2).mono ?_
  rw [HR.out]
  rintro e w3 ⟨rfl, hb3⟩
  clear hr2 hc2
  go_wp2_with fail
  go_ret
  exact ⟨rfl, hB2.trans (hb3.mono (by omega))⟩
end Go.Proofs.YtdcmjmcipgadlaaGreat

namespace Go.Proofs.YtdcmjmcipgadlaaGreat
open Go.RowKit
set_option maxRecDepth 100000

theorem CaE.at {W : World} {B : Nat} {t : Tr} {c : List Sp} {ve vk vc : Value} (h : t.rd W B ve vk) (hc : SlP W B 3 SpE vc c) : CaE W B (t, c) [ve, vk, vc] := ⟨_, _, _, rfl, h, hc⟩
set_option maxHeartbeats 4000000 in
theorem lawCR_any (t : Tr) (c : List Sp) (w : World) (ve vk vc : Value) (h : t.rd w w.heap.size ve vk) (hc : SlP w w.heap.size 3 SpE vc c) :
    Calls Tryz.prog 9 #[.agg #[ve, vk, vc]] w fun e w' => e = .returned (.bool true) ∧ Below w.heap.size w w' := by
  have HC : Hid (∀ w', Below w.heap.size w w' → t.rd w' w'.heap.size ve vk) := fun w' hb => rd_below hb hb.size _ _ _ h
  have HS : Hid (∀ w', Below w.heap.size w w' → SlP w' w'.heap.size 3 SpE vc c) := fun w' hb => hc.imp hb hb.size fun _ _ _ h => h
  obtain ⟨A3, n3, A4, n4, rfl, rfl⟩ := rd_shape h
  obtain ⟨A5, n5, rfl, _⟩ := hc
  clear h
  have HX : Hid (∀ W, Below (w.heap.size + 1) (w.alloc (.cells #[.slice A3 t.es.length n3, .slice A4 t.ks.length n4, .slice A5 c.length n5] 29)) W → Below w.heap.size w W ∧ t.rd W W.heap.size (.slice A3 t.es.length n3) (.slice A4 t.ks.length n4) ∧ SlP W W.heap.size 3 SpE (.slice A5 c.length n5) c ∧ (W.cell? ⟨w.heap.size, 0, none⟩ = some (.slice A3 t.es.length n3) ∧ W.cell? ⟨w.heap.size, 1, none⟩ = some (.slice A4 t.ks.length n4) ∧ W.cell? ⟨w.heap.size, 2, none⟩ = some (.slice A5 c.length n5))) := fun W hW => by
    have g0 : W.heap[w.heap.size]? = some (.cells #[.slice A3 t.es.length n3, .slice A4 t.ks.length n4, .slice A5 c.length n5] 29 (0, 0)) := (hW.block _ (by omega)).trans (heap_new rfl)
    have hB : Below w.heap.size w W := ((Below.refl _ w).alloc (Nat.le_refl _) _).trans (hW.mono (by omega))
    exact ⟨hB, HC.out _ hB, HS.out _ hB, cell_cells (i := 0) g0, cell_cells (i := 1) g0, cell_cells (i := 2) g0⟩
  go_enter Tryz.func9, Tryz.ntmps9
  go_wp2_with fail
  refine (awake09_any _).mono ?_
  rintro e w1 ⟨rfl, hb1⟩
  have hbk1 := hid (hb1.mono (show w.heap.size + 1 ≤ _ by simp))
  have hs1 := hbk1.out.size
  simp only [World.size_alloc] at hs1
  obtain ⟨hB1, hr1, hc1, q0, q1, q2⟩ := HX.out _ hbk1.out
  have hlt : w.heap.size < w1.heap.size := by omega
  clear hb1
  go_wp2_with fail
  have hv2 : Below (w.heap.size + 1) w1 (w1.alloc (.cells #[.slice A3 t.es.length n3, .slice A4 t.ks.length n4, .slice A5 c.length n5] 29)) := (Below.refl _ w1).alloc (by omega) _
  have h2 := HX.out _ (hbk1.out.trans hv2)
  refine (small09_any [(t, c)] _ _ (SlP.oneB (CaE.at h2.2.1 h2.2.2.1) rfl _ rfl (by simp))).mono ?_
  rw [show ([(t, c)].all fun x => sml9 x.1 x.2 40) = sml9 t c 40 from by simp]
  rintro e w2 ⟨rfl, hb2⟩
  have hbk2 := hid (hbk1.out.trans (hv2.trans (hb2.mono (by simp; omega))))
  have hs2 := hbk2.out.size
  simp only [World.size_alloc] at hs2
  clear h2 hv2 hb2 q0 q1 q2 hr1 hc1
  obtain ⟨hB2, hr2, hc2, q0, q1, q2⟩ := HX.out _ hbk2.out
  cases hs : sml9 t c 40
  · clear hs
    go_wp2_with fail
    refine (awake09_any _).mono ?_
    rintro e w3 ⟨rfl, hb3⟩
    go_wp2_with fail
    go_ret
    exact ⟨rfl, hB2.trans (hb3.mono (by omega))⟩
  · obtain ⟨hz1, hz2⟩ := sml9_sz hs
    clear hs
    have hr9 := caR_r9 t c
    cases hr : caR t c
    · have HR := hid hr
      have HR9 : Hid (r9R t c = false) := by unfold Hid; rw [← hr9, hr]
      clear hr hr9
      go_upto_region 3 with (fail)
      go_region_held3 (fun w' => w'.cell? ⟨w.heap.size, 0, none⟩ = some (.slice A3 t.es.length n3) ∧ w'.cell? ⟨w.heap.size, 1, none⟩ = some (.slice A4 t.ks.length n4) ∧ w'.cell? ⟨w.heap.size, 2, none⟩ = some (.slice A5 c.length n5))
        (first | go_keep | exact (HX.out _ hbk4.out).2.2.2 | exact (HX.out _ hbk3.out).2.2.2)
        (first | (go_at_call 48; go_loud ((refine (caright_any t c _ _ _ _ (HX.out _ (hbk2.out.trans (by go_grown))).2.1 (HX.out _ (hbk2.out.trans (by go_grown))).2.2.1 (by omega) (by omega)).mono ?_); rw [HR.out]; rintro e w3 ⟨rfl, hb⟩; have hbk3 := hid (hbk2.out.trans (Below.trans (by go_grown) (hb.mono (by simp; omega))))))
               | (go_at_call 19; go_loud ((refine (r09right_any t c _ _ _ w3 (HX.out _ hbk3.out).2.1 (HX.out _ hbk3.out).2.2.1 (by omega) (by omega)).mono ?_); rw [HR9.out]; rintro e w4 ⟨rfl, hb⟩; have hbk4 := hid (hbk3.out.trans (hb.mono (by have := hbk3.out.size; simpa using this))))))
      all_goals (
        go_wp2_with fail
        go_ret
        exact ⟨rfl, (HX.out _ hbk4.out).1⟩)
    · have HR := hid hr
      have HR9 : Hid (r9R t c = true) := by unfold Hid; rw [← hr9, hr]
      clear hr hr9
      go_upto_region 3 with (fail)
      go_region_held3 (fun w' => w'.cell? ⟨w.heap.size, 0, none⟩ = some (.slice A3 t.es.length n3) ∧ w'.cell? ⟨w.heap.size, 1, none⟩ = some (.slice A4 t.ks.length n4) ∧ w'.cell? ⟨w.heap.size, 2, none⟩ = some (.slice A5 c.length n5))
        (first | go_keep | exact (HX.out _ hbk4.out).2.2.2 | exact (HX.out _ hbk3.out).2.2.2)
        (first | (go_at_call 48; go_loud ((refine (caright_any t c _ _ _ _ (HX.out _ (hbk2.out.trans (by go_grown))).2.1 (HX.out _ (hbk2.out.trans (by go_grown))).2.2.1 (by omega) (by omega)).mono ?_); rw [HR.out]; rintro e w3 ⟨rfl, hb⟩; have hbk3 := hid (hbk2.out.trans (Below.trans (by go_grown) (hb.mono (by simp; omega))))))
               | (go_at_call 19; go_loud ((refine (r09right_any t c _ _ _ w3 (HX.out _ hbk3.out).2.1 (HX.out _ hbk3.out).2.2.1 (by omega) (by omega)).mono ?_); rw [HR9.out]; rintro e w4 ⟨rfl, hb⟩; have hbk4 := hid (hbk3.out.trans (hb.mono (by have := hbk3.out.size; simpa using this))))))
      all_goals (
        go_wp2_with fail
        go_ret
        exact ⟨rfl, (HX.out _ hbk4.out).1⟩)
end Go.Proofs.YtdcmjmcipgadlaaGreat
