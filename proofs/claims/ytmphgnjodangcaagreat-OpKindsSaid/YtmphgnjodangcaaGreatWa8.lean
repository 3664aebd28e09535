/- What the laws need, part 8: op.Read, op.Same. Condition: not too big. Which changes take another one's entry away: plain. What is known by those who make changes and hear of others': plain. Changes that were made, in memory. No condition. op.Same, tributaryref15.Same, begins, undoes; slices.Equal at texts. No condition. tributaryref15.stands, Visible, Short. Condition: not too many. tributaryref15: kinds, paths, and which changes may be. No condition. tributaryref15.Op: why a change can't be. No condition. context.Same. No condition but that there are not too many. causal.Same, causal.Leq, tributarylaw09.join. Condition: not too big. The plain law of CounterAll. What is read is what the changes tell: plain. tributaryref15.Read. Condition: not too big. tributaryref10.Own. No condition but that there are not too many entries. Plain law: the context of one dot more. No condition. -/
import Derived.Test.YtmphgnjodangcaaGreatWa7
namespace Go.Proofs.YtmphgnjodangcaaGreat
open Go.RowKit
set_option maxRecDepth 100000

/-- The call hands back a view, whose list lies in rows of its own, and an error's number. -/
def RetVE (w : World) (v : Vw) (k : Int) (e : Ending) (w' : World) : Prop :=
  ∃ vl, e = .returned (.tuple #[.agg #[.int .i64 v.kind, .bool v.on, .int .i64 v.n, vl], .int .i64 k]) ∧ SlA w' (fun b => w.heap.size ≤ b ∧ b < w'.heap.size) 1 StE vl v.l ∧ Below w.heap.size w w'
theorem box4 {w : World} {g : Nat} {x y z u : Value} {e : TypeId} (hbx : w.heap[g]? = some (.cells #[x, y, z, u] e (0, 0))) (a b c d : Value) :
    ((((w.setCell ⟨g, 0, none⟩ a).setCell ⟨g, 1, none⟩ b).setCell ⟨g, 2, none⟩ c).setCell ⟨g, 3, none⟩ d).cell? ⟨g, 0, none⟩ = some a ∧ ((((w.setCell ⟨g, 0, none⟩ a).setCell ⟨g, 1, none⟩ b).setCell ⟨g, 2, none⟩ c).setCell ⟨g, 3, none⟩ d).cell? ⟨g, 1, none⟩ = some b ∧ ((((w.setCell ⟨g, 0, none⟩ a).setCell ⟨g, 1, none⟩ b).setCell ⟨g, 2, none⟩ c).setCell ⟨g, 3, none⟩ d).cell? ⟨g, 2, none⟩ = some c ∧ ((((w.setCell ⟨g, 0, none⟩ a).setCell ⟨g, 1, none⟩ b).setCell ⟨g, 2, none⟩ c).setCell ⟨g, 3, none⟩ d).cell? ⟨g, 3, none⟩ = some d ∧
      (∀ k, k ≠ g → ((((w.setCell ⟨g, 0, none⟩ a).setCell ⟨g, 1, none⟩ b).setCell ⟨g, 2, none⟩ c).setCell ⟨g, 3, none⟩ d).heap[k]? = w.heap[k]?) ∧ ((((w.setCell ⟨g, 0, none⟩ a).setCell ⟨g, 1, none⟩ b).setCell ⟨g, 2, none⟩ c).setCell ⟨g, 3, none⟩ d).heap.size = w.heap.size := by
  have hW := cells_set (i := 3) (cells_set (i := 2) (cells_set (i := 1) (cells_set (i := 0) hbx a) b) c) d
  exact ⟨(cell_cells (i := 0) hW).trans (by simp), (cell_cells (i := 1) hW).trans (by simp), (cell_cells (i := 2) hW).trans (by simp), (cell_cells (i := 3) hW).trans (by simp),
    fun k hk => (Below.heap_setCell _ _ _ _ hk).trans ((Below.heap_setCell _ _ _ _ hk).trans ((Below.heap_setCell _ _ _ _ hk).trans (Below.heap_setCell _ _ _ _ hk))), by simp [World.setCell]⟩
theorem below_box4 {B : Nat} {w0 w : World} {g : Nat} (h : Below B w0 w) (hg : B ≤ g) (a b c d : Value) : Below B w0 ((((w.setCell ⟨g, 0, none⟩ a).setCell ⟨g, 1, none⟩ b).setCell ⟨g, 2, none⟩ c).setCell ⟨g, 3, none⟩ d) :=
  (((h.setCell (p := ⟨g, 0, none⟩) hg a).setCell (p := ⟨g, 1, none⟩) hg b).setCell (p := ⟨g, 2, none⟩) hg c).setCell (p := ⟨g, 3, none⟩) hg d
theorem vals_len (u : Tr) : (valsOf u).length ≤ u.es.length := by
  unfold valsOf
  have h1 : ∀ l : List ByteArray, (cmpL (srtL l)).length ≤ l.length := fun l => by
    rw [sd_eq]
    obtain ⟨h1, h2⟩ := sdL_spec l
    exact List.Nodup.length_le_of_subset (nodup_lt h1) fun x hx => (h2 x).1 hx
  refine Nat.le_trans (h1 _) ?_
  split
  · unfold txtL; simp
  · simp
theorem keys_len (u : Tr) : (keysOf u).length ≤ u.ks.length := by unfold keysOf; split <;> simp
theorem read_err {t : Tr} {p : List ByteArray} (h : readI t p ≠ 0) : readV t p = vw0 := by unfold readV; rw [if_neg h]
set_option maxHeartbeats 8000000 in
theorem opRead_any (t : Tr) (path : List ByteArray) (ve vk vp : Value) (w : World) (h : t.rd w w.heap.size ve vk) (hp : SlP w w.heap.size 1 StE vp path) (hN : t.sz ≤ 4000) :
    Calls Tryz.prog 79 #[.agg #[ve, vk], vp] w (RetVE w (readV t path) (readI t path)) := by
  have HC : Hid (∀ w', Below w.heap.size w w' → t.rd w' w'.heap.size ve vk) := fun w' hb => rd_below hb hb.size _ _ _ h
  have HD : Hid (∀ w', Below w.heap.size w w' → SlP w' w'.heap.size 1 StE vp path) := fun w' hb => hp.imp hb hb.size fun _ _ _ h => h
  obtain ⟨A3, n3, A4, n4, rfl, rfl⟩ := rd_shape h
  obtain ⟨A5, n5, rfl, p1, p2, p3⟩ := hp
  unfold Big at p2
  have hb0 := ((Below.refl w.heap.size w).alloc (Nat.le_refl _) (.cells #[.slice A3 t.es.length n3, .slice A4 t.ks.length n4] 27)).alloc (by simp) (.cells #[.int .i64 0, .bool false, .int .i64 0, .slice none 0 0] 86)
  have HX : Hid (∀ W, Below (w.heap.size + 2) ((w.alloc (.cells #[.slice A3 t.es.length n3, .slice A4 t.ks.length n4] 27)).alloc (.cells #[.int .i64 0, .bool false, .int .i64 0, .slice none 0 0] 86)) W →
      (Below w.heap.size w W ∧ t.rd W W.heap.size (.slice A3 t.es.length n3) (.slice A4 t.ks.length n4) ∧ SlP W W.heap.size 1 StE (.slice A5 path.length n5) path ∧ W.cell? ⟨w.heap.size, 0, none⟩ = some (.slice A3 t.es.length n3) ∧ W.cell? ⟨w.heap.size, 1, none⟩ = some (.slice A4 t.ks.length n4) ∧ W.heap[w.heap.size + 1]? = some (.cells #[.int .i64 0, .bool false, .int .i64 0, .slice none 0 0] 86 (0, 0)))) := fun W hW => by
    have g0 : W.heap[w.heap.size]? = some (.cells #[.slice A3 t.es.length n3, .slice A4 t.ks.length n4] 27 (0, 0)) := (hW.block _ (by omega)).trans ((heap_old (by simp)).trans (heap_new rfl))
    have g1 : W.heap[w.heap.size + 1]? = some (.cells #[.int .i64 0, .bool false, .int .i64 0, .slice none 0 0] 86 (0, 0)) := (hW.block _ (by omega)).trans (heap_new (by simp))
    have hB := hb0.trans (hW.mono (by omega))
    exact ⟨hB, HC.out _ hB, HD.out _ hB, cell_cells (i := 0) g0, cell_cells (i := 1) g0, g1⟩
  clear h
  go_enter Tryz.func79, Tryz.ntmps79
  go_wp2_with fail
  obtain ⟨hB, rt, rp, c0, c1, g1⟩ := HX.out _ (Below.refl _ _)
  refine (tRight_any t _ _ _ rt).mono ?_
  cases ht : t.right 5
  · rintro e w1 ⟨rfl, hb1⟩
    have HBN := hid (hb1.mono (show w.heap.size + 2 ≤ _ by simp))
    have hRI : readI t path = 1 := by unfold readI; rw [ht]; rfl
    have HRI := hid hRI
    have HRV := hid (read_err (t := t) (p := path) (by rw [hRI]; decide))
    clear hB rt rp c0 c1 g1 ht hb1 hRI
    have hGZ := (HX.out _ HBN.out).2.2.2.2.2
    have hBz := (HX.out _ HBN.out).1
    have HG := hid hGZ
    have HBZ := hid hBz
    have k0 := cell_cells (i := 0) hGZ
    have k1 := cell_cells (i := 1) hGZ
    have k2 := cell_cells (i := 2) hGZ
    have k3 := cell_cells (i := 3) hGZ
    simp only [List.getElem?_toArray, List.getElem?_cons_zero, List.getElem?_cons_succ] at k0 k1 k2 k3
    have z0 := cells_frz (i := 0) hGZ
    have z1 := cells_frz (i := 1) hGZ
    have z2 := cells_frz (i := 2) hGZ
    have z3 := cells_frz (i := 3) hGZ
    clear hGZ hBz
    go_wp2_with fail
    obtain ⟨r0, r1, r2, r3, hK, hS⟩ := box4 HG.out (.int .i64 0) (.bool false) (.int .i64 0) (.slice none 0 0)
    have hBW := below_box4 HBZ.out (show w.heap.size ≤ w.heap.size + 1 by omega) (.int .i64 0) (.bool false) (.int .i64 0) (.slice none 0 0)
    exact bodyPost_ret (v := .tuple #[.agg #[.int .i64 0, .bool false, .int .i64 0, .slice none 0 0], .int .i64 1]) (by simp [results, Tryz.results79, go_sem, r0, r1, r2, r3] <;> rfl) rfl ⟨_, by rw [HRI.out, HRV.out]; rfl, by rw [HRV.out]; exact SlA.nil, hBW⟩
  rintro e w1 ⟨rfl, hb1⟩
  have HBN := hid (hb1.mono (show w.heap.size + 2 ≤ _ by simp))
  clear hB rt rp c0 c1 g1 hb1
  obtain ⟨hB, rt, rp, c0, c1, g1⟩ := HX.out _ HBN.out
  have HT := hid ht
  clear ht
  go_wp2_with fail
  refine (checkPath_any path _ _ rp).mono ?_
  by_cases hi : pathI path = 0
  case neg =>
    rintro e w2 ⟨rfl, hb2⟩
    have HBN2 := hid (HBN.out.trans (hb2.mono (by have := HBN.out.size; simpa using this)))
    have hne : (pathI path == 0) = false := by simpa using hi
    have hRI : readI t path = pathI path := by unfold readI; rw [HT.out]; rfl
    have HRI := hid hRI
    have HRV := hid (read_err (t := t) (p := path) (by rw [hRI]; exact hi))
    clear hB rt rp c0 c1 g1 hb2 hi HBN hRI
    have HBN := HBN2
    have hGZ := (HX.out _ HBN.out).2.2.2.2.2
    have hBz := (HX.out _ HBN.out).1
    have HG := hid hGZ
    have HBZ := hid hBz
    have k0 := cell_cells (i := 0) hGZ
    have k1 := cell_cells (i := 1) hGZ
    have k2 := cell_cells (i := 2) hGZ
    have k3 := cell_cells (i := 3) hGZ
    simp only [List.getElem?_toArray, List.getElem?_cons_zero, List.getElem?_cons_succ] at k0 k1 k2 k3
    have z0 := cells_frz (i := 0) hGZ
    have z1 := cells_frz (i := 1) hGZ
    have z2 := cells_frz (i := 2) hGZ
    have z3 := cells_frz (i := 3) hGZ
    clear hGZ hBz
    go_wp2_with fail
    obtain ⟨r0, r1, r2, r3, hK, hS⟩ := box4 HG.out (.int .i64 0) (.bool false) (.int .i64 0) (.slice none 0 0)
    have hBW := below_box4 HBZ.out (show w.heap.size ≤ w.heap.size + 1 by omega) (.int .i64 0) (.bool false) (.int .i64 0) (.slice none 0 0)
    exact bodyPost_ret (v := .tuple #[.agg #[.int .i64 0, .bool false, .int .i64 0, .slice none 0 0], .int .i64 (pathI path)]) (by simp [results, Tryz.results79, go_sem, r0, r1, r2, r3] <;> rfl) rfl ⟨_, by rw [HRI.out, HRV.out]; rfl, by rw [HRV.out]; exact SlA.nil, hBW⟩
  rw [hi]
  rintro e w2 ⟨rfl, hb2⟩
  have HBN2 := hid (HBN.out.trans (hb2.mono (by have := HBN.out.size; simpa using this)))
  have HI := hid hi
  obtain ⟨hk1, hk2⟩ := path_kind hi
  have hpl := (path_ok hi).1
  clear hB rt rp c0 c1 g1 hb2 hi HBN
  have HBN := HBN2
  clear HBN2
  obtain ⟨hB, rt, rp, c0, c1, g1⟩ := HX.out _ HBN.out
  obtain ⟨u, HU⟩ : ∃ u, Hid (tgetT t path = u) := ⟨_, rfl⟩
  have HUK : Hid (getK t path = u) := (tgetT_eq HT.out path).symm.trans HU.out
  have hus : u.sz ≤ 4000 := by rw [← HUK.out]; exact Nat.le_trans (getK_szle t path) hN
  have hue := es_sz u
  go_wp2_with fail
  refine (tget_any t path _ _ _ _ rt rp (by omega)).mono ?_
  rw [HU.out]
  rintro e w3 ⟨ve3, vk3, rfl, hrd3, hb3⟩
  obtain ⟨Ar, nr, Br, mr, rfl, rfl⟩ := rda_shape hrd3
  have HBN2 := hid (HBN.out.trans (hb3.mono (by have := HBN.out.size; simpa using this)))
  have hs3 := HBN2.out.size
  simp only [World.size_alloc] at hs3
  have HR3 := hid hrd3
  obtain ⟨bq, offq, hA5, hbq, hcq⟩ := p3 (by rintro rfl; simp at hpl)
  subst hA5
  obtain ⟨cs, ⟨rfl, hkok⟩, _, hku⟩ := hcq (path.length - 1) _ (last_at hpl)
  have HY : Hid (∀ W, Below (w3.heap.size + 1) (w3.alloc (.cells #[.slice Ar u.es.length nr, .slice Br u.ks.length mr] 27)) W → (Below (w.heap.size + 2) ((w.alloc (.cells #[.slice A3 t.es.length n3, .slice A4 t.ks.length n4] 27)).alloc (.cells #[.int .i64 0, .bool false, .int .i64 0, .slice none 0 0] 86)) W ∧ u.rd W W.heap.size (.slice Ar u.es.length nr) (.slice Br u.ks.length mr) ∧ W.cell? ⟨w3.heap.size, 0, none⟩ = some (.slice Ar u.es.length nr) ∧ W.cell? ⟨w3.heap.size, 1, none⟩ = some (.slice Br u.ks.length mr) ∧ W.cell? ⟨bq, offq + (path.length - 1), none⟩ = some (.string (lastK path)))) := fun W hW => by
    have g := (hW.block w3.heap.size (by omega)).trans (heap_new rfl)
    have hB3 := ((Below.refl _ w3).alloc (Nat.le_refl _) _).trans (hW.mono (by omega))
    have hBX := HBN2.out.trans (hB3.mono (by omega))
    have hBW := (HX.out W hBX).1
    exact ⟨hBX, rda_rd HR3.out (fun b hb => hb.2) hB3, cell_cells (i := 0) g, cell_cells (i := 1) g, (hBW.cell (p := ⟨bq, offq + (path.length - 1), none⟩) hbq).trans (by simpa using hku 0 _ rfl)⟩
  clear hB rt rp c0 c1 g1 hb3 hrd3 HBN hku hcq p3
  obtain ⟨hBy, ru, y0, y1, y2⟩ := HY.out _ (Below.refl _ _)
  go_wp2_with fail
  refine (opKind_any (lastK path) _).mono ?_
  rcases (show kindB (lastK path) = 1 ∨ kindB (lastK path) = 2 ∨ kindB (lastK path) = 3 ∨ kindB (lastK path) = 4 ∨ kindB (lastK path) = 5 by omega) with hk | hk | hk | hk | hk
  · rw [hk]
    rintro e w4 ⟨rfl, hb4⟩
    have HBY := hid (hb4.mono (show w3.heap.size + 1 ≤ _ by simp))
    have hs4 := HBY.out.size
    simp only [World.size_alloc] at hs4
    have HV : Hid (∀ W, Below (w4.heap.size + 1) (w4.alloc (.cells #[.int .i64 1, .bool false, .int .i64 0, .slice none 0 0] 86)) W → (Below (w3.heap.size + 1) (w3.alloc (.cells #[.slice Ar u.es.length nr, .slice Br u.ks.length mr] 27)) W ∧ W.heap[w4.heap.size]? = some (.cells #[.int .i64 1, .bool false, .int .i64 0, .slice none 0 0] 86 (0, 0)))) := fun W hW =>
      ⟨HBY.out.trans ((((Below.refl _ w4).alloc (Nat.le_refl _) _).trans (hW.mono (by omega))).mono (by omega)), (hW.block w4.heap.size (by omega)).trans (heap_new rfl)⟩
    have HVW : Hid (readV t path = viewK 1 u ∧ readI t path = 0) := by
      have h0 : readI t path = 0 := by unfold readI; rw [HT.out, HI.out]; rfl
      exact ⟨by unfold readV; rw [if_pos h0, hk, HUK.out], h0⟩
    clear hBy ru y0 y1 y2 hb4 hk
    obtain ⟨hBv, gv⟩ := HV.out _ (Below.refl _ _)
    obtain ⟨hBy, ru, y0, y1, y2⟩ := HY.out _ hBv
    have v0 := cell_cells (i := 0) gv
    simp only [List.getElem?_toArray, List.getElem?_cons_zero] at v0
    go_wp2_with fail
    refine (fon_any u _ _ _ ru).mono ?_
    rintro e w5 ⟨rfl, hb5⟩
    have HBV := hid (hb5.mono (show w4.heap.size + 1 ≤ _ by simp))
    have hs5 := HBV.out.size
    simp only [World.size_alloc] at hs5
    clear hBv gv hBy ru y0 y1 y2 v0 hb5
    obtain ⟨hBv, gv⟩ := HV.out _ HBV.out
    obtain ⟨hBx, _, _, _, _⟩ := HY.out _ hBv
    obtain ⟨hBW, _, _, _, _, gz⟩ := HX.out _ hBx
    have HGV := hid gv
    have HGZ := hid gz
    have HBW := hid hBW
    have v0 := cell_cells (i := 0) gv
    have v1 := cell_cells (i := 1) gv
    have v2 := cell_cells (i := 2) gv
    have v3 := cell_cells (i := 3) gv
    simp only [List.getElem?_toArray, List.getElem?_cons_zero, List.getElem?_cons_succ] at v0 v1 v2 v3
    have u0 := cells_frz (i := 0) gv
    have u1 := cells_frz (i := 1) gv
    have u2 := cells_frz (i := 2) gv
    have u3 := cells_frz (i := 3) gv
    have k0 := cell_cells (i := 0) gz
    have k1 := cell_cells (i := 1) gz
    have k2 := cell_cells (i := 2) gz
    have k3 := cell_cells (i := 3) gz
    simp only [List.getElem?_toArray, List.getElem?_cons_zero, List.getElem?_cons_succ] at k0 k1 k2 k3
    have z0 := cells_frz (i := 0) gz
    have z1 := cells_frz (i := 1) gz
    have z2 := cells_frz (i := 2) gz
    have z3 := cells_frz (i := 3) gz
    have hne1 : w4.heap.size ≠ w.heap.size + 1 := by omega
    have hne2 : w.heap.size + 1 ≠ w4.heap.size := by omega
    clear hBv gv hBx hBW gz
    go_wp2_with fail
    have HG5 : (w5.setCell ⟨w4.heap.size, 1, none⟩ (.bool (onB u))).heap[w.heap.size + 1]? = some (.cells #[.int .i64 0, .bool false, .int .i64 0, .slice none 0 0] 86 (0, 0)) := (Below.heap_setCell _ _ _ _ (by simp; omega)).trans HGZ.out
    have hS5 : (w5.setCell ⟨w4.heap.size, 1, none⟩ (.bool (onB u))).heap.size = w5.heap.size := by simp [World.setCell]
    obtain ⟨r0, r1, r2, r3, hK, hS⟩ := box4 HG5 (.int .i64 1) (.bool (onB u)) (.int .i64 0) (.slice none 0 0)
    have hBB := below_box4 (HBW.out.setCell (p := ⟨w4.heap.size, 1, none⟩) (by simp; omega) (.bool (onB u))) (show w.heap.size ≤ w.heap.size + 1 by omega) (.int .i64 1) (.bool (onB u)) (.int .i64 0) (.slice none 0 0)
    exact bodyPost_ret (v := .tuple #[.agg #[.int .i64 1, .bool (onB u), .int .i64 0, .slice none 0 0], .int .i64 0]) (by simp [results, Tryz.results79, go_sem, r0, r1, r2, r3] <;> rfl) rfl ⟨_, by rw [HVW.out.1, HVW.out.2]; rfl, by rw [HVW.out.1]; exact SlA.nil, hBB⟩
  · rw [hk]
    rintro e w4 ⟨rfl, hb4⟩
    have HBY := hid (hb4.mono (show w3.heap.size + 1 ≤ _ by simp))
    have hs4 := HBY.out.size
    simp only [World.size_alloc] at hs4
    have HV : Hid (∀ W, Below (w4.heap.size + 1) (w4.alloc (.cells #[.int .i64 2, .bool false, .int .i64 0, .slice none 0 0] 86)) W → (Below (w3.heap.size + 1) (w3.alloc (.cells #[.slice Ar u.es.length nr, .slice Br u.ks.length mr] 27)) W ∧ W.heap[w4.heap.size]? = some (.cells #[.int .i64 2, .bool false, .int .i64 0, .slice none 0 0] 86 (0, 0)))) := fun W hW =>
      ⟨HBY.out.trans ((((Below.refl _ w4).alloc (Nat.le_refl _) _).trans (hW.mono (by omega))).mono (by omega)), (hW.block w4.heap.size (by omega)).trans (heap_new rfl)⟩
    have HVW : Hid (readV t path = viewK 2 u ∧ readI t path = 0) := by
      have h0 : readI t path = 0 := by unfold readI; rw [HT.out, HI.out]; rfl
      exact ⟨by unfold readV; rw [if_pos h0, hk, HUK.out], h0⟩
    clear hBy ru y0 y1 y2 hb4 hk
    obtain ⟨hBv, gv⟩ := HV.out _ (Below.refl _ _)
    obtain ⟨hBy, ru, y0, y1, y2⟩ := HY.out _ hBv
    have v0 := cell_cells (i := 0) gv
    simp only [List.getElem?_toArray, List.getElem?_cons_zero] at v0
    go_wp2_with fail
    refine (selems_any u _ _ _ ru (by omega)).mono ?_
    rintro e w5 ⟨vL, rfl, ho5, hb5⟩
    obtain ⟨Av, nv, rfl⟩ := ho5.shape
    have HSL := hid (OwnP.sla ho5 (by unfold Big; have := elemsOf_len u; omega))
    have hbs5 : w.heap.size + 2 ≤ w5.heap.size := by have := hb5.size; simp at this; omega
    simp only [World.size_alloc] at HSL
    clear ho5
    have HBV := hid (hb5.mono (show w4.heap.size + 1 ≤ _ by simp))
    have hs5 := HBV.out.size
    simp only [World.size_alloc] at hs5
    clear hBv gv hBy ru y0 y1 y2 v0 hb5
    obtain ⟨hBv, gv⟩ := HV.out _ HBV.out
    obtain ⟨hBx, _, _, _, _⟩ := HY.out _ hBv
    obtain ⟨hBW, _, _, _, _, gz⟩ := HX.out _ hBx
    have HGV := hid gv
    have HGZ := hid gz
    have HBW := hid hBW
    have v0 := cell_cells (i := 0) gv
    have v1 := cell_cells (i := 1) gv
    have v2 := cell_cells (i := 2) gv
    have v3 := cell_cells (i := 3) gv
    simp only [List.getElem?_toArray, List.getElem?_cons_zero, List.getElem?_cons_succ] at v0 v1 v2 v3
    have u0 := cells_frz (i := 0) gv
    have u1 := cells_frz (i := 1) gv
    have u2 := cells_frz (i := 2) gv
    have u3 := cells_frz (i := 3) gv
    have k0 := cell_cells (i := 0) gz
    have k1 := cell_cells (i := 1) gz
    have k2 := cell_cells (i := 2) gz
    have k3 := cell_cells (i := 3) gz
    simp only [List.getElem?_toArray, List.getElem?_cons_zero, List.getElem?_cons_succ] at k0 k1 k2 k3
    have z0 := cells_frz (i := 0) gz
    have z1 := cells_frz (i := 1) gz
    have z2 := cells_frz (i := 2) gz
    have z3 := cells_frz (i := 3) gz
    have hne1 : w4.heap.size ≠ w.heap.size + 1 := by omega
    have hne2 : w.heap.size + 1 ≠ w4.heap.size := by omega
    clear hBv gv hBx hBW gz
    go_wp2_with fail
    have HG5 : (w5.setCell ⟨w4.heap.size, 3, none⟩ (.slice Av (elemsOf u).length nv)).heap[w.heap.size + 1]? = some (.cells #[.int .i64 0, .bool false, .int .i64 0, .slice none 0 0] 86 (0, 0)) := (Below.heap_setCell _ _ _ _ (by simp; omega)).trans HGZ.out
    have hS5 : (w5.setCell ⟨w4.heap.size, 3, none⟩ (.slice Av (elemsOf u).length nv)).heap.size = w5.heap.size := by simp [World.setCell]
    obtain ⟨r0, r1, r2, r3, hK, hS⟩ := box4 HG5 (.int .i64 2) (.bool false) (.int .i64 0) (.slice Av (elemsOf u).length nv)
    have hBB := below_box4 (HBW.out.setCell (p := ⟨w4.heap.size, 3, none⟩) (by simp; omega) (.slice Av (elemsOf u).length nv)) (show w.heap.size ≤ w.heap.size + 1 by omega) (.int .i64 2) (.bool false) (.int .i64 0) (.slice Av (elemsOf u).length nv)
    exact bodyPost_ret (v := .tuple #[.agg #[.int .i64 2, .bool false, .int .i64 0, .slice Av (elemsOf u).length nv], .int .i64 0]) (by simp [results, Tryz.results79, go_sem, r0, r1, r2, r3] <;> rfl) rfl ⟨_, by rw [HVW.out.1, HVW.out.2]; rfl, by
      rw [HVW.out.1]
      exact HSL.out.up (fun b hb => (hK b (by have := hb.1; omega)).trans (Below.heap_setCell _ _ _ _ (by have := hb.1; simp; omega))) (fun b hb => ⟨by have := hb.1; omega, by rw [hS, hS5]; exact hb.2.1⟩) (fun _ _ _ h => h), hBB⟩
  · rw [hk]
    rintro e w4 ⟨rfl, hb4⟩
    have HBY := hid (hb4.mono (show w3.heap.size + 1 ≤ _ by simp))
    have hs4 := HBY.out.size
    simp only [World.size_alloc] at hs4
    have HV : Hid (∀ W, Below (w4.heap.size + 1) (w4.alloc (.cells #[.int .i64 3, .bool false, .int .i64 0, .slice none 0 0] 86)) W → (Below (w3.heap.size + 1) (w3.alloc (.cells #[.slice Ar u.es.length nr, .slice Br u.ks.length mr] 27)) W ∧ W.heap[w4.heap.size]? = some (.cells #[.int .i64 3, .bool false, .int .i64 0, .slice none 0 0] 86 (0, 0)))) := fun W hW =>
      ⟨HBY.out.trans ((((Below.refl _ w4).alloc (Nat.le_refl _) _).trans (hW.mono (by omega))).mono (by omega)), (hW.block w4.heap.size (by omega)).trans (heap_new rfl)⟩
    have HVW : Hid (readV t path = viewK 3 u ∧ readI t path = 0) := by
      have h0 : readI t path = 0 := by unfold readI; rw [HT.out, HI.out]; rfl
      exact ⟨by unfold readV; rw [if_pos h0, hk, HUK.out], h0⟩
    clear hBy ru y0 y1 y2 hb4 hk
    obtain ⟨hBv, gv⟩ := HV.out _ (Below.refl _ _)
    obtain ⟨hBy, ru, y0, y1, y2⟩ := HY.out _ hBv
    have v0 := cell_cells (i := 0) gv
    simp only [List.getElem?_toArray, List.getElem?_cons_zero] at v0
    go_wp2_with fail
    refine (cvalue_any u _ _ _ ru).mono ?_
    rintro e w5 ⟨rfl, hb5⟩
    have HBV := hid (hb5.mono (show w4.heap.size + 1 ≤ _ by simp))
    have hs5 := HBV.out.size
    simp only [World.size_alloc] at hs5
    clear hBv gv hBy ru y0 y1 y2 v0 hb5
    obtain ⟨hBv, gv⟩ := HV.out _ HBV.out
    obtain ⟨hBx, _, _, _, _⟩ := HY.out _ hBv
    obtain ⟨hBW, _, _, _, _, gz⟩ := HX.out _ hBx
    have HGV := hid gv
    have HGZ := hid gz
    have HBW := hid hBW
    have v0 := cell_cells (i := 0) gv
    have v1 := cell_cells (i := 1) gv
    have v2 := cell_cells (i := 2) gv
    have v3 := cell_cells (i := 3) gv
    simp only [List.getElem?_toArray, List.getElem?_cons_zero, List.getElem?_cons_succ] at v0 v1 v2 v3
    have u0 := cells_frz (i := 0) gv
    have u1 := cells_frz (i := 1) gv
    have u2 := cells_frz (i := 2) gv
    have u3 := cells_frz (i := 3) gv
    have k0 := cell_cells (i := 0) gz
    have k1 := cell_cells (i := 1) gz
    have k2 := cell_cells (i := 2) gz
    have k3 := cell_cells (i := 3) gz
    simp only [List.getElem?_toArray, List.getElem?_cons_zero, List.getElem?_cons_succ] at k0 k1 k2 k3
    have z0 := cells_frz (i := 0) gz
    have z1 := cells_frz (i := 1) gz
    have z2 := cells_frz (i := 2) gz
    have z3 := cells_frz (i := 3) gz
    have hne1 : w4.heap.size ≠ w.heap.size + 1 := by omega
    have hne2 : w.heap.size + 1 ≠ w4.heap.size := by omega
    clear hBv gv hBx hBW gz
    go_wp2_with fail
    have HG5 : (w5.setCell ⟨w4.heap.size, 2, none⟩ (.int .i64 (valT u))).heap[w.heap.size + 1]? = some (.cells #[.int .i64 0, .bool false, .int .i64 0, .slice none 0 0] 86 (0, 0)) := (Below.heap_setCell _ _ _ _ (by simp; omega)).trans HGZ.out
    have hS5 : (w5.setCell ⟨w4.heap.size, 2, none⟩ (.int .i64 (valT u))).heap.size = w5.heap.size := by simp [World.setCell]
    obtain ⟨r0, r1, r2, r3, hK, hS⟩ := box4 HG5 (.int .i64 3) (.bool false) (.int .i64 (valT u)) (.slice none 0 0)
    have hBB := below_box4 (HBW.out.setCell (p := ⟨w4.heap.size, 2, none⟩) (by simp; omega) (.int .i64 (valT u))) (show w.heap.size ≤ w.heap.size + 1 by omega) (.int .i64 3) (.bool false) (.int .i64 (valT u)) (.slice none 0 0)
    exact bodyPost_ret (v := .tuple #[.agg #[.int .i64 3, .bool false, .int .i64 (valT u), .slice none 0 0], .int .i64 0]) (by simp [results, Tryz.results79, go_sem, r0, r1, r2, r3] <;> rfl) rfl ⟨_, by rw [HVW.out.1, HVW.out.2]; rfl, by rw [HVW.out.1]; exact SlA.nil, hBB⟩
  · rw [hk]
    rintro e w4 ⟨rfl, hb4⟩
    have HBY := hid (hb4.mono (show w3.heap.size + 1 ≤ _ by simp))
    have hs4 := HBY.out.size
    simp only [World.size_alloc] at hs4
    have HV : Hid (∀ W, Below (w4.heap.size + 1) (w4.alloc (.cells #[.int .i64 4, .bool false, .int .i64 0, .slice none 0 0] 86)) W → (Below (w3.heap.size + 1) (w3.alloc (.cells #[.slice Ar u.es.length nr, .slice Br u.ks.length mr] 27)) W ∧ W.heap[w4.heap.size]? = some (.cells #[.int .i64 4, .bool false, .int .i64 0, .slice none 0 0] 86 (0, 0)))) := fun W hW =>
      ⟨HBY.out.trans ((((Below.refl _ w4).alloc (Nat.le_refl _) _).trans (hW.mono (by omega))).mono (by omega)), (hW.block w4.heap.size (by omega)).trans (heap_new rfl)⟩
    have HVW : Hid (readV t path = viewK 4 u ∧ readI t path = 0) := by
      have h0 : readI t path = 0 := by unfold readI; rw [HT.out, HI.out]; rfl
      exact ⟨by unfold readV; rw [if_pos h0, hk, HUK.out], h0⟩
    clear hBy ru y0 y1 y2 hb4 hk
    obtain ⟨hBv, gv⟩ := HV.out _ (Below.refl _ _)
    obtain ⟨hBy, ru, y0, y1, y2⟩ := HY.out _ hBv
    have v0 := cell_cells (i := 0) gv
    simp only [List.getElem?_toArray, List.getElem?_cons_zero] at v0
    go_wp2_with fail
    refine (rvals_any u _ _ _ ru (by omega)).mono ?_
    rintro e w5 ⟨vL, rfl, ho5, hb5⟩
    obtain ⟨Av, nv, rfl⟩ := ho5.shape
    have HSL := hid (OwnP.sla ho5 (by unfold Big; have := vals_len u; omega))
    have hbs5 : w.heap.size + 2 ≤ w5.heap.size := by have := hb5.size; simp at this; omega
    simp only [World.size_alloc] at HSL
    clear ho5
    have HBV := hid (hb5.mono (show w4.heap.size + 1 ≤ _ by simp))
    have hs5 := HBV.out.size
    simp only [World.size_alloc] at hs5
    clear hBv gv hBy ru y0 y1 y2 v0 hb5
    obtain ⟨hBv, gv⟩ := HV.out _ HBV.out
    obtain ⟨hBx, _, _, _, _⟩ := HY.out _ hBv
    obtain ⟨hBW, _, _, _, _, gz⟩ := HX.out _ hBx
    have HGV := hid gv
    have HGZ := hid gz
    have HBW := hid hBW
    have v0 := cell_cells (i := 0) gv
    have v1 := cell_cells (i := 1) gv
    have v2 := cell_cells (i := 2) gv
    have v3 := cell_cells (i := 3) gv
    simp only [List.getElem?_toArray, List.getElem?_cons_zero, List.getElem?_cons_succ] at v0 v1 v2 v3
    have u0 := cells_frz (i := 0) gv
    have u1 := cells_frz (i := 1) gv
    have u2 := cells_frz (i := 2) gv
    have u3 := cells_frz (i := 3) gv
    have k0 := cell_cells (i := 0) gz
    have k1 := cell_cells (i := 1) gz
    have k2 := cell_cells (i := 2) gz
    have k3 := cell_cells (i := 3) gz
    simp only [List.getElem?_toArray, List.getElem?_cons_zero, List.getElem?_cons_succ] at k0 k1 k2 k3
    have z0 := cells_frz (i := 0) gz
    have z1 := cells_frz (i := 1) gz
    have z2 := cells_frz (i := 2) gz
    have z3 := cells_frz (i := 3) gz
    have hne1 : w4.heap.size ≠ w.heap.size + 1 := by omega
    have hne2 : w.heap.size + 1 ≠ w4.heap.size := by omega
    clear hBv gv hBx hBW gz
    go_wp2_with fail
    have HG5 : (w5.setCell ⟨w4.heap.size, 3, none⟩ (.slice Av (valsOf u).length nv)).heap[w.heap.size + 1]? = some (.cells #[.int .i64 0, .bool false, .int .i64 0, .slice none 0 0] 86 (0, 0)) := (Below.heap_setCell _ _ _ _ (by simp; omega)).trans HGZ.out
    have hS5 : (w5.setCell ⟨w4.heap.size, 3, none⟩ (.slice Av (valsOf u).length nv)).heap.size = w5.heap.size := by simp [World.setCell]
    obtain ⟨r0, r1, r2, r3, hK, hS⟩ := box4 HG5 (.int .i64 4) (.bool false) (.int .i64 0) (.slice Av (valsOf u).length nv)
    have hBB := below_box4 (HBW.out.setCell (p := ⟨w4.heap.size, 3, none⟩) (by simp; omega) (.slice Av (valsOf u).length nv)) (show w.heap.size ≤ w.heap.size + 1 by omega) (.int .i64 4) (.bool false) (.int .i64 0) (.slice Av (valsOf u).length nv)
    exact bodyPost_ret (v := .tuple #[.agg #[.int .i64 4, .bool false, .int .i64 0, .slice Av (valsOf u).length nv], .int .i64 0]) (by simp [results, Tryz.results79, go_sem, r0, r1, r2, r3] <;> rfl) rfl ⟨_, by rw [HVW.out.1, HVW.out.2]; rfl, by
      rw [HVW.out.1]
      exact HSL.out.up (fun b hb => (hK b (by have := hb.1; omega)).trans (Below.heap_setCell _ _ _ _ (by have := hb.1; simp; omega))) (fun b hb => ⟨by have := hb.1; omega, by rw [hS, hS5]; exact hb.2.1⟩) (fun _ _ _ h => h), hBB⟩
  · rw [hk]
    rintro e w4 ⟨rfl, hb4⟩
    have HBY := hid (hb4.mono (show w3.heap.size + 1 ≤ _ by simp))
    have hs4 := HBY.out.size
    simp only [World.size_alloc] at hs4
    have HV : Hid (∀ W, Below (w4.heap.size + 1) (w4.alloc (.cells #[.int .i64 5, .bool false, .int .i64 0, .slice none 0 0] 86)) W → (Below (w3.heap.size + 1) (w3.alloc (.cells #[.slice Ar u.es.length nr, .slice Br u.ks.length mr] 27)) W ∧ W.heap[w4.heap.size]? = some (.cells #[.int .i64 5, .bool false, .int .i64 0, .slice none 0 0] 86 (0, 0)))) := fun W hW =>
      ⟨HBY.out.trans ((((Below.refl _ w4).alloc (Nat.le_refl _) _).trans (hW.mono (by omega))).mono (by omega)), (hW.block w4.heap.size (by omega)).trans (heap_new rfl)⟩
    have HVW : Hid (readV t path = viewK 5 u ∧ readI t path = 0) := by
      have h0 : readI t path = 0 := by unfold readI; rw [HT.out, HI.out]; rfl
      exact ⟨by unfold readV; rw [if_pos h0, hk, HUK.out], h0⟩
    clear hBy ru y0 y1 y2 hb4 hk
    obtain ⟨hBv, gv⟩ := HV.out _ (Below.refl _ _)
    obtain ⟨hBy, ru, y0, y1, y2⟩ := HY.out _ hBv
    have v0 := cell_cells (i := 0) gv
    simp only [List.getElem?_toArray, List.getElem?_cons_zero] at v0
    go_wp2_with fail
    refine (okeys_any u _ _ _ ru (by omega)).mono ?_
    rintro e w5 ⟨vL, rfl, ho5, hb5⟩
    obtain ⟨Av, nv, rfl⟩ := ho5.shape
    have HSL := hid (OwnP.sla ho5 (by unfold Big; have := keys_len u; omega))
    have hbs5 : w.heap.size + 2 ≤ w5.heap.size := by have := hb5.size; simp at this; omega
    simp only [World.size_alloc] at HSL
    clear ho5
    have HBV := hid (hb5.mono (show w4.heap.size + 1 ≤ _ by simp))
    have hs5 := HBV.out.size
    simp only [World.size_alloc] at hs5
    clear hBv gv hBy ru y0 y1 y2 v0 hb5
    obtain ⟨hBv, gv⟩ := HV.out _ HBV.out
    obtain ⟨hBx, _, _, _, _⟩ := HY.out _ hBv
    obtain ⟨hBW, _, _, _, _, gz⟩ := HX.out _ hBx
    have HGV := hid gv
    have HGZ := hid gz
    have HBW := hid hBW
    have v0 := cell_cells (i := 0) gv
    have v1 := cell_cells (i := 1) gv
    have v2 := cell_cells (i := 2) gv
    have v3 := cell_cells (i := 3) gv
    simp only [List.getElem?_toArray, List.getElem?_cons_zero, List.getElem?_cons_succ] at v0 v1 v2 v3
    have u0 := cells_frz (i := 0) gv
    have u1 := cells_frz (i := 1) gv
    have u2 := cells_frz (i := 2) gv
    have u3 := cells_frz (i := 3) gv
    have k0 := cell_cells (i := 0) gz
    have k1 := cell_cells (i := 1) gz
    have k2 := cell_cells (i := 2) gz
    have k3 := cell_cells (i := 3) gz
    simp only [List.getElem?_toArray, List.getElem?_cons_zero, List.getElem?_cons_succ] at k0 k1 k2 k3
    have z0 := cells_frz (i := 0) gz
    have z1 := cells_frz (i := 1) gz
    have z2 := cells_frz (i := 2) gz
    have z3 := cells_frz (i := 3) gz
    have hne1 : w4.heap.size ≠ w.heap.size + 1 := by omega
    have hne2 : w.heap.size + 1 ≠ w4.heap.size := by omega
    clear hBv gv hBx hBW gz
    go_wp2_with fail
    have HG5 : (w5.setCell ⟨w4.heap.size, 3, none⟩ (.slice Av (keysOf u).length nv)).heap[w.heap.size + 1]? = some (.cells #[.int .i64 0, .bool false, .int .i64 0, .slice none 0 0] 86 (0, 0)) := (Below.heap_setCell _ _ _ _ (by simp; omega)).trans HGZ.out
    have hS5 : (w5.setCell ⟨w4.heap.size, 3, none⟩ (.slice Av (keysOf u).length nv)).heap.size = w5.heap.size := by simp [World.setCell]
    obtain ⟨r0, r1, r2, r3, hK, hS⟩ := box4 HG5 (.int .i64 5) (.bool false) (.int .i64 0) (.slice Av (keysOf u).length nv)
    have hBB := below_box4 (HBW.out.setCell (p := ⟨w4.heap.size, 3, none⟩) (by simp; omega) (.slice Av (keysOf u).length nv)) (show w.heap.size ≤ w.heap.size + 1 by omega) (.int .i64 5) (.bool false) (.int .i64 0) (.slice Av (keysOf u).length nv)
    exact bodyPost_ret (v := .tuple #[.agg #[.int .i64 5, .bool false, .int .i64 0, .slice Av (keysOf u).length nv], .int .i64 0]) (by simp [results, Tryz.results79, go_sem, r0, r1, r2, r3] <;> rfl) rfl ⟨_, by rw [HVW.out.1, HVW.out.2]; rfl, by
      rw [HVW.out.1]
      exact HSL.out.up (fun b hb => (hK b (by have := hb.1; omega)).trans (Below.heap_setCell _ _ _ _ (by have := hb.1; simp; omega))) (fun b hb => ⟨by have := hb.1; omega, by rw [hS, hS5]; exact hb.2.1⟩) (fun _ _ _ h => h), hBB⟩
end Go.Proofs.YtmphgnjodangcaaGreat

namespace Go.Proofs.YtmphgnjodangcaaGreat
open Go.RowKit
set_option maxRecDepth 100000

/-- Does a path begin with another one? -/
def begB (p w : List ByteArray) : Bool := decide (p.take w.length = w)
/-- Does a change take another one's entry away, if it has seen it? -/
def undoB (x e : Opr) : Bool := begB e.path x.path && (decide (x.act = 7) || (decide (e.path.length = x.path.length) && (if x.act = 1 ∨ x.act = 2 then decide (e.act = 1) else if x.act = 3 ∨ x.act = 4 then decide (e.act = 3) && decide (e.s = x.s) else if x.act = 6 then decide (e.act = 6) else false)))
theorem beg_iff {p w : List ByteArray} : begB p w = true ↔ ∃ q, p = w ++ q := by
  unfold begB
  rw [decide_eq_true_eq]
  constructor
  · intro h
    have h1 := List.take_append_drop w.length p
    rw [h] at h1
    exact ⟨_, h1.symm⟩
  · rintro ⟨q, rfl⟩; simp
theorem kind_mid {p : List ByteArray} (h : pathI p = 0) {j : Nat} {k : ByteArray} (hj : p[j]? = some k) (hl : j + 1 < p.length) : kindB k = 5 := by
  have h1 := (path_ok h).2.2.2
  rw [List.any_eq_false] at h1
  have h2 : p.dropLast[j]? = some k := by rw [List.dropLast_eq_take, List.getElem?_take, if_pos (by omega)]; exact hj
  have h3 := h1 k (List.mem_of_getElem? h2)
  unfold noMap at h3
  simpa using h3
theorem act_kind {o : Opr} (h : OpOk o) : (o.act = 1 ∨ o.act = 2 → kindB (lastK o.path) = 1) ∧ (o.act = 3 ∨ o.act = 4 → kindB (lastK o.path) = 2) ∧ (o.act = 5 → kindB (lastK o.path) = 3) ∧ (o.act = 6 → kindB (lastK o.path) = 4) := by
  have h1 := h.act
  unfold actB at h1
  refine ⟨fun ha => ?_, fun ha => ?_, fun ha => ?_, fun ha => ?_⟩
  · rw [if_pos ha] at h1; exact of_decide_eq_true h1
  · rw [if_neg (by omega), if_pos ha] at h1; exact of_decide_eq_true h1
  · rw [if_neg (by omega), if_neg (by omega), if_pos ha] at h1; exact of_decide_eq_true h1
  · rw [if_neg (by omega), if_neg (by omega), if_neg (by omega), if_pos ha] at h1; exact of_decide_eq_true h1
theorem ent_kind {o : Opr} (h : OpOk o) (he : entryB o.act = true) : (kindB (lastK o.path) = 1 → o.act = 1) ∧ (kindB (lastK o.path) = 2 → o.act = 3) ∧ (kindB (lastK o.path) = 3 → o.act = 5) ∧ (kindB (lastK o.path) = 4 → o.act = 6) ∧ kindB (lastK o.path) ≠ 5 := by
  obtain ⟨k1, k2, k3, k4⟩ := act_kind h
  have he := of_decide_eq_true (show decide (o.act = 1 ∨ o.act = 3 ∨ o.act = 5 ∨ o.act = 6) = true from he)
  rcases he with ha | ha | ha | ha
  · have := k1 (.inl ha); exact ⟨fun _ => ha, fun h => by omega, fun h => by omega, fun h => by omega, by omega⟩
  · have := k2 (.inl ha); exact ⟨fun h => by omega, fun _ => ha, fun h => by omega, fun h => by omega, by omega⟩
  · have := k3 ha; exact ⟨fun h => by omega, fun h => by omega, fun _ => ha, fun h => by omega, by omega⟩
  · have := k4 ha; exact ⟨fun h => by omega, fun h => by omega, fun h => by omega, fun _ => ha, by omega⟩
/-- A right path that an entry's keys begin with is one that the change's path begins with. -/
theorem end_beg {w : List ByteArray} {e : Opr} (hw : pathI w = 0) (he : OpOk e) {q : List ByteArray} (h : endP e = w ++ q) : ∃ r, e.path = w ++ r := by
  have hp := (path_ok he.path).1
  by_cases hl : w.length ≤ e.path.length
  · refine ⟨e.path.drop w.length, ?_⟩
    have h1 : (endP e).take w.length = w := by rw [h]; simp
    unfold endP at h1
    rw [List.take_append_of_le_length hl] at h1
    have h2 := List.take_append_drop w.length e.path
    rw [h1] at h2
    exact h2.symm
  · exfalso
    unfold endP at h
    split at h
    · rename_i ha
      have hlen := congrArg List.length h
      simp only [List.length_append, List.length_singleton] at hlen
      have h3 : w[e.path.length - 1]? = some (lastK e.path) := by
        have h4 : (w ++ q)[e.path.length - 1]? = some (lastK e.path) := by rw [← h, List.getElem?_append_left (by omega)]; exact last_at hp
        rwa [List.getElem?_append_left (by omega)] at h4
      have h5 := kind_mid hw h3 (by omega)
      have h6 := (act_kind he).2.1 (.inl ha)
      omega
    · have hlen := congrArg List.length h
      simp only [List.length_append, List.append_nil] at hlen
      omega
theorem beg_end {w : List ByteArray} {e : Opr} {r : List ByteArray} (h : e.path = w ++ r) : ∃ q, endP e = w ++ q := ⟨r ++ (if e.act = 3 then [e.s] else []), by unfold endP; rw [h, List.append_assoc]⟩
/-- A right path that doesn't lead to a map goes no further. -/
theorem beg_same {w p : List ByteArray} (hw : 1 ≤ w.length) (hp : pathI p = 0) (hk : kindB (lastK w) ≠ 5) {r : List ByteArray} (h : p = w ++ r) : p = w := by
  cases r with
  | nil => rw [h, List.append_nil]
  | cons a r =>
    exfalso
    have h1 : p[w.length - 1]? = some (lastK w) := by rw [h, List.getElem?_append_left (by omega)]; exact last_at hw
    exact hk (kind_mid hp h1 (by rw [h]; simp; omega))
theorem undo_7 {o e : Opr} (ho : OpOk o) (he : OpOk e) (ha : o.act = 7) : (∃ q, endP e = o.path ++ q) ↔ undoB o e = true := by
  have hu : undoB o e = begB e.path o.path := by unfold undoB; simp [ha]
  rw [hu, beg_iff]
  exact ⟨fun ⟨q, h⟩ => end_beg ho.path he h, fun ⟨r, h⟩ => beg_end h⟩
theorem undo_12 {o e : Opr} (ho : OpOk o) (he : OpOk e) (hent : entryB e.act = true) (ha : o.act = 1 ∨ o.act = 2) : (∃ q, endP e = o.path ++ q) ↔ undoB o e = true := by
  have hu : undoB o e = (begB e.path o.path && (decide (e.path.length = o.path.length) && decide (e.act = 1))) := by unfold undoB; rw [if_pos ha, decide_eq_false (show ¬ o.act = 7 by omega), Bool.false_or]
  rw [hu, Bool.and_eq_true, Bool.and_eq_true, beg_iff, decide_eq_true_eq, decide_eq_true_eq]
  have hk := (act_kind ho).1 ha
  constructor
  · rintro ⟨q, h⟩
    obtain ⟨r, h1⟩ := end_beg ho.path he h
    have h2 := beg_same (path_ok ho.path).1 he.path (by omega) h1
    exact ⟨⟨r, h1⟩, by rw [h2], (ent_kind he hent).1 (by rw [h2]; exact hk)⟩
  · rintro ⟨⟨r, h⟩, _⟩; exact beg_end h
theorem undo_34 {o e : Opr} (ho : OpOk o) (he : OpOk e) (ha : o.act = 3 ∨ o.act = 4) : (∃ q, endP e = o.path ++ [o.s] ++ q) ↔ undoB o e = true := by
  have hu : undoB o e = (begB e.path o.path && (decide (e.path.length = o.path.length) && (decide (e.act = 3) && decide (e.s = o.s)))) := by unfold undoB; rw [if_neg (by omega), if_pos ha, decide_eq_false (show ¬ o.act = 7 by omega), Bool.false_or]
  rw [hu, Bool.and_eq_true, Bool.and_eq_true, Bool.and_eq_true, beg_iff, decide_eq_true_eq, decide_eq_true_eq, decide_eq_true_eq]
  have hk := (act_kind ho).2.1 ha
  constructor
  · rintro ⟨q, h⟩
    rw [List.append_assoc] at h
    obtain ⟨r, h1⟩ := end_beg ho.path he h
    have h2 := beg_same (path_ok ho.path).1 he.path (by omega) h1
    refine ⟨⟨r, h1⟩, by rw [h2], ?_⟩
    unfold endP at h
    rw [h2] at h
    have h3 := List.append_cancel_left h
    split at h3
    · rename_i h4; simp at h3; exact ⟨h4, h3.1⟩
    · simp at h3
  · rintro ⟨⟨r, h⟩, hl, h3, hs⟩
    have h4 : r = [] := by rw [h] at hl; simp at hl; exact hl
    rw [h4, List.append_nil] at h
    exact ⟨[], by unfold endP; rw [h, if_pos h3, hs]; simp⟩
theorem undo_5 {o e : Opr} (ha : o.act = 5) : undoB o e = false := by
  unfold undoB; rw [if_neg (by omega), if_neg (by omega), if_neg (by omega), decide_eq_false (show ¬ o.act = 7 by omega)]; simp
theorem undo_6 {o e : Opr} (ho : OpOk o) (he : OpOk e) (hent : entryB e.act = true) (ha : o.act = 6) : endP e = o.path ↔ undoB o e = true := by
  have hu : undoB o e = (begB e.path o.path && (decide (e.path.length = o.path.length) && decide (e.act = 6))) := by unfold undoB; rw [if_neg (by omega), if_neg (by omega), if_pos ha, decide_eq_false (show ¬ o.act = 7 by omega), Bool.false_or]
  rw [hu, Bool.and_eq_true, Bool.and_eq_true, beg_iff, decide_eq_true_eq, decide_eq_true_eq]
  have hk := (act_kind ho).2.2.2 ha
  constructor
  · intro h
    obtain ⟨r, h1⟩ := end_beg ho.path he (q := []) (by rw [List.append_nil]; exact h)
    have h2 := beg_same (path_ok ho.path).1 he.path (by omega) h1
    exact ⟨⟨r, h1⟩, by rw [h2], (ent_kind he hent).2.2.2.1 (by rw [h2]; exact hk)⟩
  · rintro ⟨⟨r, h⟩, hl, h6⟩
    have h4 : r = [] := by rw [h] at hl; simp at hl; exact hl
    rw [h4, List.append_nil] at h
    unfold endP; rw [if_neg (by omega), h, List.append_nil]
/-- What a change has seen of what it changes is what it takes away. -/
theorem sees_undo {t : Tr} (ht : t.Ord) {o e : Opr} (ho : OpOk o) (he : OpOk e) (hent : entryB e.act = true) {x : Dt} {y : En} (hx : ((endP e, y) : Lf) ∈ t.lvs []) (hd : y.dot = x) (hone : ∀ p z, ((p, z) : Lf) ∈ t.lvs [] → z.dot = x → p = endP e) :
    x ∈ seesD t o ↔ undoB o e = true := by
  have hpre : ∀ w : List ByteArray, x ∈ (getK t w).dots ↔ ∃ q, endP e = w ++ q := fun w => by
    rw [getP_dots ht]
    exact ⟨fun ⟨q, z, h1, h2⟩ => ⟨q, (hone _ _ h1 h2).symm⟩, fun ⟨q, h⟩ => ⟨q, y, h ▸ hx, hd⟩⟩
  rcases act_cases ho with ha | ha | ha | ha | ha | ha | ha
  · rw [sees_sub (.inl ha), hpre, undo_12 ho he hent (.inl ha)]
  · rw [sees_sub (.inr (.inl ha)), hpre, undo_12 ho he hent (.inr ha)]
  · rw [sees_el (.inl ha), hpre, undo_34 ho he (.inl ha)]
  · rw [sees_el (.inr ha), hpre, undo_34 ho he (.inr ha)]
  · rw [sees_inc ha, undo_5 ha]; simp
  · rw [sees_wrt ha, own_at ht, ← undo_6 ho he hent ha]
    exact ⟨fun ⟨z, h1, h2⟩ => (hone _ _ h1 h2).symm, fun h => ⟨y, h ▸ hx, hd⟩⟩
  · rw [sees_sub (.inr (.inr ha)), hpre, undo_7 ho he ha]
end Go.Proofs.YtmphgnjodangcaaGreat

namespace Go.Proofs.YtmphgnjodangcaaGreat
open Go.RowKit
set_option maxRecDepth 100000

/-- A change that was made: its name, and all the names that were known to who made it. -/
structure Ev where
  d : Dt
  o : Opr
  seen : List Sp
  deriving DecidableEq, Inhabited
def visL (l : List Ev) (c : List Sp) : List Ev := l.filter fun x => hasC c x.d
def undB (d : Dt) (o : Opr) (x : Ev) : Bool := !(hasC x.seen d && undoB x.o o)
def standB (l : List Ev) (e : Ev) : Bool := entryB e.o.act && l.all (undB e.d e.o)
/-- The changes. -/
structure Lw (l : List Ev) : Prop where
  op : ∀ e ∈ l, OpOk e.o
  nd : (l.map (·.d)).Nodup
  rt : ∀ e ∈ l, e.d.right = true
  seen : ∀ e ∈ l, ∀ d, hasC e.seen d = true → ∃ x ∈ l, x.d = d
/-- What somebody knows. -/
structure Kw (l : List Ev) (x : Kn) : Prop where
  ok : KOk x
  inn : ∀ d, hasC x.2 d = true → ∃ e ∈ l, e.d = d
  clo : ∀ e ∈ l, hasC x.2 e.d = true → ∀ d, hasC e.seen d = true → hasC x.2 d = true
  st : ∀ e ∈ l, ∀ p, stE x.1 p e.d = if hasC x.2 e.d = true ∧ standB (visL l x.2) e = true ∧ p = endP e.o then some (entE e.o e.d) else none
theorem Lw.nil : Lw [] := ⟨fun _ h => (by cases h), .nil, fun _ h => (by cases h), fun _ h => (by cases h)⟩
theorem Kw.nil : Kw [] kn0 := ⟨kn0_ok, fun d h => (by rw [show kn0.2 = [] from rfl, hasC_nil] at h; cases h), fun _ h => (by cases h), fun _ h => (by cases h)⟩
theorem Lw.one {l : List Ev} (h : Lw l) {e f : Ev} (he : e ∈ l) (hf : f ∈ l) (hd : e.d = f.d) : e = f := nd_inj h.nd e he f hf hd
theorem stand_ent {l : List Ev} {e : Ev} (h : standB l e = true) : entryB e.o.act = true := by unfold standB at h; rw [Bool.and_eq_true] at h; exact h.1
theorem Kw.none' {l : List Ev} {x : Kn} (h : Kw l x) {d : Dt} (hd : hasC x.2 d = false) (p : List ByteArray) : stE x.1 p d = none := by
  cases hs : stE x.1 p d with
  | none => rfl
  | some y => have h1 : hasC x.2 d = true := (stE_has h.ok hs).1; rw [h1] at hd; cases hd
theorem Kw.some' {l : List Ev} {x : Kn} (h : Kw l x) {p : List ByteArray} {d : Dt} {y : En} (hs : stE x.1 p d = some y) : ∃ e ∈ l, e.d = d ∧ hasC x.2 e.d = true ∧ standB (visL l x.2) e = true ∧ p = endP e.o ∧ y = entE e.o e.d := by
  have hh := (stE_has h.ok hs).1
  obtain ⟨e, he, rfl⟩ := h.inn d hh
  rw [h.st e he] at hs
  split at hs
  · rename_i hc
    cases hs
    exact ⟨e, he, rfl, hc.1, hc.2.1, hc.2.2, rfl⟩
  · cases hs
theorem all_filter' {α : Type} (p q : α → Bool) : ∀ l : List α, (l.filter p).all q = l.all fun x => !p x || q x
  | [] => rfl
  | x :: l => by
    rw [List.filter_cons, List.all_cons]
    cases h : p x
    · simp [all_filter' p q l]
    · simp [all_filter' p q l]
theorem all_and' {α : Type} (p q : α → Bool) : ∀ l : List α, (l.all fun x => p x && q x) = (l.all p && l.all q)
  | [] => rfl
  | x :: l => by
    rw [List.all_cons, List.all_cons, List.all_cons, all_and' p q l]
    cases p x <;> cases q x <;> cases l.all p <;> cases l.all q <;> rfl
theorem all_congr' {α : Type} {p q : α → Bool} : ∀ {l : List α}, (∀ x ∈ l, p x = q x) → l.all p = l.all q
  | [], _ => rfl
  | x :: l, h => by rw [List.all_cons, List.all_cons, h x (by simp), all_congr' fun y hy => h y (by simp [hy])]
theorem stand_or {l : List Ev} {a b c : List Sp} {e : Ev} (hc : ∀ x ∈ l, hasC c x.d = (hasC a x.d || hasC b x.d)) : standB (visL l c) e = (standB (visL l a) e && standB (visL l b) e) := by
  unfold standB visL
  rw [all_filter', all_filter', all_filter']
  have h1 : (l.all fun x => !hasC c x.d || undB e.d e.o x) = ((l.all fun x => !hasC a x.d || undB e.d e.o x) && (l.all fun x => !hasC b x.d || undB e.d e.o x)) := by
    rw [← all_and']
    exact all_congr' fun x hx => by rw [hc x hx]; cases hasC a x.d <;> cases hasC b x.d <;> cases undB e.d e.o x <;> rfl
  rw [h1]
  cases entryB e.o.act <;> cases (l.all fun x => !hasC a x.d || undB e.d e.o x) <;> rfl
theorem Kw.stand_no {l : List Ev} {x : Kn} (h : Kw l x) {e : Ev} (hd : hasC x.2 e.d = false) : standB (visL l x.2) e = entryB e.o.act := by
  unfold standB
  have h1 : (visL l x.2).all (undB e.d e.o) = true := by
    rw [List.all_eq_true]
    intro y hy
    obtain ⟨hy1, hy2⟩ := List.mem_filter.1 hy
    unfold undB
    cases hs : hasC y.seen e.d
    · rfl
    · have := h.clo y hy1 hy2 _ hs
      rw [this] at hd; cases hd
  rw [h1, Bool.and_true]
/-- What two know is joined. -/
theorem Kw.join {l : List Ev} {a b : Kn} (ha : Kw l a) (hb : Kw l b) : Kw l (jn a b) := by
  have hhas : ∀ d, hasC (jn a b).2 d = (hasC a.2 d || hasC b.2 d) := jn_has ha.ok hb.ok
  refine ⟨jn_okK ha.ok hb.ok, fun d hd => ?_, fun e he hd d hs => ?_, fun e he p => ?_⟩
  · rw [hhas, Bool.or_eq_true] at hd
    exact hd.elim (ha.inn d) (hb.inn d)
  · rw [hhas, Bool.or_eq_true] at hd ⊢
    exact hd.elim (fun h => .inl (ha.clo e he h d hs)) (fun h => .inr (hb.clo e he h d hs))
  · have hst := stand_or (l := l) (e := e) (c := (jn a b).2) fun x _ => hhas x.d
    rw [jn_st ha.ok hb.ok, hst, hhas, ha.st e he, hb.st e he]
    cases h1 : hasC a.2 e.d
    · have n1 := ha.stand_no h1
      cases h2 : hasC b.2 e.d
      · simp [jnO]
      · rw [n1]
        cases h3 : standB (visL l b.2) e
        · simp [jnO]
        · have h4 := stand_ent h3
          rw [h4]
          by_cases hp : p = endP e.o
          · simp [jnO, hp]
          · simp [jnO, hp]
    · cases h2 : hasC b.2 e.d
      · rw [hb.stand_no h2]
        cases h3 : standB (visL l a.2) e
        · simp [jnO]
        · have h4 := stand_ent h3
          rw [h4]
          by_cases hp : p = endP e.o
          · simp [jnO, hp]
          · simp [jnO, hp]
      · cases h3 : standB (visL l a.2) e <;> cases h4 : standB (visL l b.2) e
        · simp [jnO]
        · by_cases hp : p = endP e.o <;> simp [jnO, hp]
        · by_cases hp : p = endP e.o <;> simp [jnO, hp]
        · by_cases hp : p = endP e.o
          · simp [jnO, hp, grt_self]
          · simp [jnO, hp]
theorem Kw.seesIn {l : List Ev} {x : Kn} (h : Kw l x) {o : Opr} {d : Dt} (hd : d ∈ seesD x.1 o) : hasC x.2 d = true := by
  obtain ⟨q, e, h1, rfl⟩ := sees_at h.ok.ord hd
  exact h.ok.has _ h1
/-- A change is made: among all changes there is one more. -/
theorem Lw.more {l : List Ev} {x : Kn} (hl : Lw l) (h : Kw l x) {o : Opr} {d : Dt} (ha : appI x.1 o d = 0) (hf : ∀ e ∈ l, e.d ≠ d) : Lw (l ++ [⟨d, o, x.2⟩]) := by
  obtain ⟨_, h2, h3, _⟩ := app_ok ha
  obtain ⟨_, g2, _⟩ := chkT_dots h3
  refine ⟨fun e he => ?_, ?_, fun e he => ?_, fun e he z hz => ?_⟩
  · rcases List.mem_append.1 he with he | he
    · exact hl.op e he
    · simp at he; subst he; exact h2
  · rw [List.map_append, List.nodup_append]
    refine ⟨hl.nd, by simp, fun a ha' b hb => ?_⟩
    obtain ⟨e, he, rfl⟩ := List.mem_map.1 ha'
    simp at hb
    subst hb
    exact hf e he
  · rcases List.mem_append.1 he with he | he
    · exact hl.rt e he
    · simp at he; subst he; exact g2
  · rcases List.mem_append.1 he with he | he
    · obtain ⟨y, hy, e1⟩ := hl.seen e he z hz
      exact ⟨y, by simp [hy], e1⟩
    · simp at he; subst he
      obtain ⟨y, hy, e1⟩ := h.inn z hz
      exact ⟨y, by simp [hy], e1⟩
theorem vis_more {l : List Ev} {c : List Sp} {e : Ev} (h : hasC c e.d = false) : visL (l ++ [e]) c = visL l c := by unfold visL; rw [List.filter_append]; simp [h]
/-- Who hasn't heard of it knows what was known. -/
theorem Kw.other {l : List Ev} {x : Kn} (h : Kw l x) {e : Ev} (hf : ∀ y ∈ l, y.d ≠ e.d) : Kw (l ++ [e]) x := by
  have hno : hasC x.2 e.d = false := by
    cases hh : hasC x.2 e.d
    · rfl
    · obtain ⟨y, hy, e1⟩ := h.inn _ hh; exact absurd e1 (hf y hy)
  refine ⟨h.ok, fun d hd => ?_, fun y hy hd d hs => ?_, fun y hy p => ?_⟩
  · obtain ⟨y, hy, e1⟩ := h.inn d hd; exact ⟨y, by simp [hy], e1⟩
  · rcases List.mem_append.1 hy with hy | hy
    · exact h.clo y hy hd d hs
    · simp at hy; subst hy; rw [hno] at hd; cases hd
  · rw [vis_more hno]
    rcases List.mem_append.1 hy with hy | hy
    · exact h.st y hy p
    · simp at hy; subst hy
      rw [h.none' hno, hno]; simp
/-- Who made it knows it. -/
theorem Kw.made {l : List Ev} {x : Kn} (hl : Lw l) (h : Kw l x) {o : Opr} {d : Dt} (ha : appI x.1 o d = 0) (hf : ∀ e ∈ l, e.d ≠ d) : Kw (l ++ [⟨d, o, x.2⟩]) (jn x (appT x.1 o d, appC x.1 o d)) := by
  obtain ⟨h1, h2, h3, _⟩ := app_ok ha
  obtain ⟨g1, g2, g3⟩ := chkT_dots h3
  have hX : KOk (appT x.1 o d, appC x.1 o d) := (app_right ha).1
  have hno : hasC x.2 d = false := by
    cases hh : hasC x.2 d
    · rfl
    · obtain ⟨y, hy, e1⟩ := h.inn _ hh; exact absurd e1 (hf y hy)
  have hhas : ∀ z, hasC (jn x (appT x.1 o d, appC x.1 o d)).2 z = (hasC x.2 z || decide (z = d)) := fun z => by
    rw [jn_has h.ok hX]
    simp only
    rw [app_has ha]
    by_cases h4 : z ∈ seesD x.1 o
    · rw [h.seesIn h4]; simp
    · simp [h4]
  refine ⟨jn_okK h.ok hX, fun z hz => ?_, fun e he hd z hs => ?_, fun e he p => ?_⟩
  · rw [hhas, Bool.or_eq_true, decide_eq_true_eq] at hz
    rcases hz with hz | rfl
    · obtain ⟨y, hy, e1⟩ := h.inn z hz; exact ⟨y, by simp [hy], e1⟩
    · exact ⟨⟨z, o, x.2⟩, by simp, rfl⟩
  · rw [hhas, Bool.or_eq_true]
    rcases List.mem_append.1 he with he | he
    · rw [hhas, decide_eq_false (hf e he), Bool.or_false] at hd
      exact .inl (h.clo e he hd z hs)
    · simp at he; subst he; exact .inl hs
  · have hvis : visL (l ++ [⟨d, o, x.2⟩]) (jn x (appT x.1 o d, appC x.1 o d)).2 = visL l x.2 ++ [⟨d, o, x.2⟩] := by
      unfold visL
      rw [List.filter_append]
      congr 1
      · exact List.filter_congr fun y hy => by rw [hhas, decide_eq_false (hf y hy), Bool.or_false]
      · simp [hhas]
    have hstd : standB (visL l x.2 ++ [⟨d, o, x.2⟩]) e = (standB (visL l x.2) e && undB e.d e.o ⟨d, o, x.2⟩) := by
      unfold standB
      rw [List.all_append]
      simp [Bool.and_assoc]
    rw [hvis, hstd, jn_st h.ok hX, hhas]
    simp only
    rw [app_st ha]
    rcases List.mem_append.1 he with he | he
    · have hne := hf e he
      rw [if_neg (by rintro ⟨_, _, e1⟩; exact hne e1), decide_eq_false hne, Bool.or_false, h.st e he]
      have hu : undB e.d e.o ⟨d, o, x.2⟩ = !(hasC x.2 e.d && undoB o e.o) := rfl
      rw [hu]
      by_cases hc : hasC x.2 e.d = true ∧ standB (visL l x.2) e = true ∧ p = endP e.o
      · have hs := h.st e he p
        rw [if_pos hc] at hs
        obtain ⟨m1, m2⟩ := (stE_some h.ok.ord).1 hs
        have hsu : e.d ∈ seesD x.1 o ↔ undoB o e.o = true := by
          refine sees_undo h.ok.ord h2 (hl.op e he) (stand_ent hc.2.1) (y := entE e.o e.d) (by rw [← hc.2.2]; exact m1) rfl fun p' z hz hzd => ?_
          have h5 : stE x.1 p' e.d = some z := (stE_some h.ok.ord).2 ⟨hz, hzd⟩
          rw [h.st e he] at h5
          split at h5
          · rename_i h6; exact h6.2.2
          · cases h5
        rw [if_pos hc, hc.1, hc.2.1]
        have hC : hasC (appC x.1 o d) e.d = undoB o e.o := by
          rw [app_has ha, Bool.eq_iff_iff, decide_eq_true_eq, ← hsu]
          exact ⟨fun h => h.resolve_left hne, .inr⟩
        rw [hC]
        cases hub : undoB o e.o
        · simp [jnO, hc.2.2]
        · simp [jnO]
      · rw [if_neg hc, if_neg (fun ⟨q1, q2, q3⟩ => hc ⟨q1, by rw [Bool.and_eq_true] at q2; exact q2.1, q3⟩)]
        simp [jnO]
    · simp at he
      subst he
      rw [h.none' hno, hno]
      have hall : standB (visL l x.2) ⟨d, o, x.2⟩ = entryB o.act := h.stand_no hno
      have hu : undB d o ⟨d, o, x.2⟩ = true := by unfold undB; simp [hno]
      simp only [hall, hu]
      by_cases ha' : entryB o.act = true <;> by_cases hp' : p = endP o <;> simp [ha', hp', jnO]

/-- How much there may be. -/
theorem lvs_nodup : ∀ t : Tr, t.Ord → (t.lvs []).Nodup := by
  intro t
  induction t using Tr.ind with
  | h es ks ih =>
    intro ho
    obtain ⟨o1, o2, o3⟩ := ord_iff.1 ho
    rw [Tr.lvs, List.nodup_append]
    refine ⟨?_, ?_, ?_⟩
    · exact List.pairwise_map.2 (o1.imp fun {a b} h e => by
        have := (Prod.mk.inj e).2
        rw [this, ltD_irrefl] at h; cases h)
    · clear ho o1
      induction ks with
      | nil => simp [Tr.lvsL]
      | cons x ks ih2 =>
        obtain ⟨k, u⟩ := x
        rw [Tr.lvsL, List.nodup_append]
        obtain ⟨q1, q2⟩ := List.pairwise_cons.1 o2
        refine ⟨?_, ih2 (fun k' t' h => ih k' t' (by simp [h])) q2 (fun k' t' h => o3 k' t' (by simp [h])), ?_⟩
        · rw [lvs_at]
          have := ih k u (by simp) (o3 k u (by simp)).2.2
          exact List.pairwise_map.2 (this.imp fun {a b} h e => h (by
            simp only [List.nil_append, Prod.mk.injEq, List.append_cancel_left_eq] at e
            exact Prod.ext e.1 e.2))
        · intro a ha b hb e
          subst e
          rw [lvs_at, List.mem_map] at ha
          obtain ⟨a', _, rfl⟩ := ha
          obtain ⟨k', t', h1, h2⟩ := mem_lvsL.1 hb
          rw [lvs_at, List.mem_map] at h2
          obtain ⟨b', _, e2⟩ := h2
          have h3 := q1 _ h1
          simp only [List.nil_append, List.singleton_append, Prod.mk.injEq, List.cons.injEq] at e2
          rw [e2.1.1, ltS_irrefl] at h3; cases h3
    · intro a ha b hb e
      subst e
      obtain ⟨x, _, rfl⟩ := List.mem_map.1 ha
      obtain ⟨k', t', h1, h2⟩ := mem_lvsL.1 hb
      rw [lvs_at, List.mem_map] at h2
      obtain ⟨b', _, e2⟩ := h2
      simp at e2
theorem sz_leaves : ∀ t : Tr, t.Ord → ∀ p : List ByteArray, t.sz + (t.lvs p).length * p.length ≤ ((t.lvs p).map fun x => x.1.length + 1).sum := by
  intro t
  induction t using Tr.ind with
  | h es ks ih =>
    intro ho p
    obtain ⟨o1, o2, o3⟩ := ord_iff.1 ho
    have h1 : ∀ es : List En, (es.map fun e => ((p, e) : Lf)).map (fun x => x.1.length + 1) = es.map fun _ => p.length + 1 := fun es => by simp
    have h2 : ∀ es : List En, (es.map fun _ => p.length + 1).sum = es.length * (p.length + 1) := fun es => by
      induction es with
      | nil => simp
      | cons e es ih => simp only [List.map_cons, List.sum_cons, ih, List.length_cons, Nat.add_mul]; omega
    have h3 : Tr.szL ks + (Tr.lvsL ks p).length * p.length ≤ ((Tr.lvsL ks p).map fun x => x.1.length + 1).sum := by
      clear ho o1 o2 h1 h2
      induction ks with
      | nil => simp [Tr.szL, Tr.lvsL]
      | cons x ks ih2 =>
        obtain ⟨k, u⟩ := x
        obtain ⟨c1, c2, c3⟩ := o3 k u (by simp)
        have e1 := ih k u (by simp) c3 (p ++ [k])
        have e2 := ih2 (fun k' t' h => ih k' t' (by simp [h])) fun k' t' h => o3 k' t' (by simp [h])
        obtain ⟨y, hy⟩ := ord_leaf u c3 c2
        have e3 : 1 ≤ (u.lvs (p ++ [k])).length := by
          rw [lvs_at, List.length_map]; exact List.length_pos_of_mem hy
        rw [Tr.szL, Tr.lvsL, List.map_append, List.sum_append, List.length_append]
        rw [List.length_append, List.length_singleton, Nat.mul_add, Nat.mul_one] at e1
        rw [Nat.add_mul]
        omega
    rw [Tr.sz, Tr.lvs, List.map_append, List.sum_append, List.length_append, h1, h2, List.length_map, Nat.add_mul]
    have : es.length * (p.length + 1) = es.length * p.length + es.length := by rw [Nat.mul_add, Nat.mul_one]
    omega
theorem sum_bd {α : Type} (f : α → Nat) (c : Nat) : ∀ (l : List α), (∀ x ∈ l, f x ≤ c) → (l.map f).sum ≤ l.length * c
  | [], _ => by simp
  | x :: l, h => by
    have h1 := sum_bd f c l fun y hy => h y (by simp [hy])
    have h2 := h x (by simp)
    simp only [List.map_cons, List.sum_cons, List.length_cons, Nat.add_mul]; omega
theorem runs_lt : ∀ (l : List (Int × Int)) (p : Option Int), runsR p l = true → (l.Pairwise fun a b => a.1 < b.1) ∧ ∀ q, p = some q → ∀ r ∈ l, q < r.1
  | [], _, _ => ⟨.nil, fun _ _ _ h => by cases h⟩
  | r :: l, p, h => by
    obtain ⟨h1, h2, h3⟩ := (runsR_iff p r l).1 h
    obtain ⟨i1, i2⟩ := runs_lt l _ h3
    have h4 := h1.2.1
    refine ⟨List.pairwise_cons.2 ⟨fun b hb => by have := i2 _ rfl b hb; omega, i1⟩, fun q hq x hx => ?_⟩
    subst hq
    have h5 := of_decide_eq_true (show decide (q + 1 < r.1) = true from h2)
    rcases List.mem_cons.1 hx with rfl | hx
    · omega
    · have := i2 _ rfl x hx; omega
theorem ctx_len {c : List Sp} (h : apartB c = true) {D : List Dt} (hD : ∀ d, hasC c d = true → d ∈ D) : c.length ≤ D.length := by
  have hd := apart_dcs c 0 (by unfold apartB at h; simp at h; exact h.1)
  have h1 : (c.map fun s => (⟨s.dc, s.fr⟩ : Dt)).Nodup := by
    refine List.pairwise_map.2 (List.pairwise_iff_getElem.2 fun i j hi hj hij e => ?_)
    simp only [Dt.mk.injEq] at e
    obtain ⟨d1, d2⟩ := hd _ (List.getElem_mem hi)
    obtain ⟨m, hm⟩ : ∃ m : Nat, (m : Int) = c[i].dc := ⟨c[i].dc.toNat, by omega⟩
    have h2 := (runs_lt _ _ (apart_part h (i := m) (by omega))).1
    unfold partL at h2
    rw [List.pairwise_map, List.pairwise_filter] at h2
    have h3 := List.pairwise_iff_getElem.1 h2 i j hi hj hij (by simp [hm]) (by simp [hm, e.1])
    simp only at h3
    omega
  have h2 := List.Nodup.length_le_of_subset h1 (l₂ := D) fun x hx => by
    obtain ⟨s, hs, rfl⟩ := List.mem_map.1 hx
    refine hD _ ?_
    obtain ⟨d1, d2⟩ := hd s hs
    obtain ⟨m, hm⟩ : ∃ m : Nat, (m : Int) = s.dc := ⟨s.dc.toNat, by omega⟩
    have hr : (s.fr, s.hi) ∈ partL c s.dc := by unfold partL; exact List.mem_map.2 ⟨s, List.mem_filter.2 ⟨hs, by simp⟩, rfl⟩
    have h3 := apart_ok h (i := m) (by omega) (s.fr, s.hi) (by rw [hm]; exact hr)
    unfold runOk at h3
    simp only at h3
    unfold hasC
    have h4 : (⟨s.dc, s.fr⟩ : Dt).right = true := by rw [← hm]; exact dt_right (by omega) (by omega)
    rw [h4, Bool.true_and]
    unfold hasL
    rw [List.any_eq_true]
    exact ⟨_, hr, by unfold inR; simp; omega⟩
  rwa [List.length_map] at h2
theorem Kw.size {l : List Ev} {x : Kn} (h : Kw l x) : x.1.sz ≤ 5 * l.length ∧ x.2.length ≤ l.length := by
  constructor
  · have h1 := sz_leaves x.1 h.ok.ord []
    have h2 : ((x.1.lvs []).map fun x => x.1.length + 1).sum ≤ (x.1.lvs []).length * 5 := sum_bd _ 5 _ fun y hy => by
      have := (h.ok.leaf y hy).1; omega
    have h3 : ((x.1.lvs []).map fun x => x.2.dot).length ≤ (l.map (·.d)).length := by
      refine List.Nodup.length_le_of_subset ?_ fun z hz => ?_
      · refine List.pairwise_map.2 ((lvs_nodup x.1 h.ok.ord).imp_of_mem fun {a b} ha hb hn e => hn ?_)
        have s1 : stE x.1 a.1 a.2.dot = some a.2 := (stE_some h.ok.ord).2 ⟨ha, rfl⟩
        have s2 : stE x.1 b.1 a.2.dot = some b.2 := (stE_some h.ok.ord).2 ⟨hb, e.symm⟩
        obtain ⟨e1, m1, n1, _, _, p1, q1⟩ := h.some' s1
        rw [← n1, h.st e1 m1] at s2
        split at s2
        · rename_i hc
          have e3 := Option.some.inj s2
          exact Prod.ext (by rw [p1, hc.2.2]) (by rw [q1, e3])
        · cases s2
      · obtain ⟨y, hy, rfl⟩ := List.mem_map.1 hz
        obtain ⟨e, he, hd⟩ := h.inn _ (h.ok.has y hy)
        exact List.mem_map.2 ⟨e, he, hd⟩
    rw [List.length_map, List.length_map] at h3
    simp only [List.length_nil, Nat.mul_zero, Nat.add_zero] at h1
    omega
  · have := ctx_len h.ok.ap (D := l.map (·.d)) fun d hd => by
      obtain ⟨e, he, e1⟩ := h.inn d hd
      exact List.mem_map.2 ⟨e, he, e1⟩
    rwa [List.length_map] at this
end Go.Proofs.YtmphgnjodangcaaGreat

namespace Go.Proofs.YtmphgnjodangcaaGreat
open Go.RowKit
set_option maxRecDepth 100000

/-- A change that was made lies in cells. -/
def EvA (w : World) (ok : Nat → Prop) (e : Ev) (cs : List Value) : Prop :=
  ∃ A c A' c', cs = [.int .i64 e.d.dc, .int .i64 e.d.n, .slice A e.o.path.length c, .int .i64 e.o.act, .string e.o.s, .int .i64 e.o.n, .slice A' e.seen.length c'] ∧ SlA w ok 1 StE (.slice A e.o.path.length c) e.o.path ∧ SlA w ok 3 SpE (.slice A' e.seen.length c') e.seen ∧ e.d.Ok ∧ e.o.Ok
theorem EvA.mon : Emon EvA where
  up := fun hk ho ⟨A, c, A', c', h1, h2, h3, h4⟩ => ⟨A, c, A', c', h1, h2.up hk ho fun _ _ _ h => h, h3.up hk ho fun _ _ _ h => h, h4⟩
  one := by rintro w ok x cs ⟨A, c, A', c', rfl, _⟩; simp [Value.oneCell']
/-- A list of changes that were made lies in memory. -/
def EvL (w : World) (v : Value) (l : List Ev) : Prop := SlP w w.heap.size 7 (EvA w (fun b => b < w.heap.size)) v l
theorem EvL.up {w w' : World} {v : Value} {l : List Ev} (h : EvL w v l) (hb : Below w.heap.size w w') : EvL w' v l :=
  SlP.imp h hb hb.size fun _ _ _ hx => EvA.mon.up (fun b hb' => hb.block b hb') (fun _ hb' => Nat.lt_of_lt_of_le hb' hb.size) hx
/-- One change of the list, in its cells. -/
theorem EvL.at {w : World} {A : Option Addr} {n : Nat} {l : List Ev} (h : EvL w (.slice A l.length n) l) {k : Nat} {x : Ev} (hx : l[k]? = some x) :
    ∃ b off A5 c5 A6 c6, A = some ⟨b, off, none⟩ ∧ b < w.heap.size ∧ SlP w w.heap.size 1 StE (.slice A5 x.o.path.length c5) x.o.path ∧ SlP w w.heap.size 3 SpE (.slice A6 x.seen.length c6) x.seen ∧ x.d.Ok ∧ x.o.Ok ∧
      ∀ W, Below w.heap.size w W → (W.cell? ⟨b, off + k * 7, none⟩ = some (.int .i64 x.d.dc) ∧ W.cell? ⟨b, off + k * 7 + 1, none⟩ = some (.int .i64 x.d.n) ∧ W.cell? ⟨b, off + k * 7 + 2, none⟩ = some (.slice A5 x.o.path.length c5) ∧ W.cell? ⟨b, off + k * 7 + 3, none⟩ = some (.int .i64 x.o.act) ∧ W.cell? ⟨b, off + k * 7 + 4, none⟩ = some (.string x.o.s) ∧ W.cell? ⟨b, off + k * 7 + 5, none⟩ = some (.int .i64 x.o.n) ∧ W.cell? ⟨b, off + k * 7 + 6, none⟩ = some (.slice A6 x.seen.length c6)) := by
  obtain ⟨A', n', hv, _, _, h3⟩ := h
  cases hv
  obtain ⟨b, off, rfl, hb, hc⟩ := h3 (by rintro rfl; simp at hx)
  obtain ⟨cs, ⟨A5, c5, A6, c6, rfl, hp, hs, hd, ho⟩, _, hu⟩ := hc k x hx
  exact ⟨b, off, A5, c5, A6, c6, rfl, hb, hp, hs, hd, ho, fun W hW => ⟨(hW.cell hb).trans (hu 0 _ rfl), (hW.cell hb).trans (hu 1 _ rfl), (hW.cell hb).trans (hu 2 _ rfl), (hW.cell hb).trans (hu 3 _ rfl), (hW.cell hb).trans (hu 4 _ rfl), (hW.cell hb).trans (hu 5 _ rfl), (hW.cell hb).trans (hu 6 _ rfl)⟩⟩
end Go.Proofs.YtmphgnjodangcaaGreat

namespace Go.Proofs.YtmphgnjodangcaaGreat
open Go.RowKit
set_option maxRecDepth 100000

/-- Are two views alike? -/
def vwEq (a b : Vw) : Bool := decide (a.kind = b.kind) && (decide (a.on = b.on) && (decide (a.n = b.n) && decide (a.l = b.l)))
theorem vwEq_iff {a b : Vw} : vwEq a b = true ↔ a = b := by
  obtain ⟨k, o, n, l⟩ := a
  obtain ⟨k', o', n', l'⟩ := b
  unfold vwEq
  simp only [Bool.and_eq_true, decide_eq_true_eq, Vw.mk.injEq]
theorem vwEq_self (a : Vw) : vwEq a a = true := vwEq_iff.2 rfl
set_option maxHeartbeats 1000000 in
theorem eqStr_any (a b : List ByteArray) (va vb : Value) (w : World) (B : Nat) (ha : SlP w B 1 StE va a) (hb : SlP w B 1 StE vb b) :
    Calls Tryz.prog 159 #[va, vb] w fun e w' => e = .returned (.bool (decide (a = b))) ∧ ∃ n, w' = w.drewN n := by
  obtain ⟨A1, n1, rfl, b1, b2, b3⟩ := ha
  obtain ⟨A2, n2, rfl, c1, c2, c3⟩ := hb
  unfold Big at b2 c2
  by_cases hl : a.length = b.length
  · have hl' : ((a.length : Int) != (b.length : Int)) = false := by simp [hl]
    have HL := hid hl
    clear hl
    go_enter Tryz.func159, Tryz.ntmps159
    go_wp2_with fail
    go_loopw [13] (fun i wr => ∃ k : Nat, k ≤ a.length ∧ i = .int .i64 k ∧ Hid (a.take k = b.take k) ∧ ∃ n, wr = w.drewN n) (fun i _ => a.length - (intOf i).toNat)
    case atStart => exact ⟨0, Nat.zero_le _, rfl, rfl, 0, rfl⟩
    case round =>
      obtain ⟨k, hk, rfl, hrel, q, rfl⟩ := hrel
      by_cases hlt : k < a.length
      · have hlt2 : k < b.length := by have := HL.out; omega
        obtain ⟨x, hx⟩ : ∃ x, a[k]? = some x := ⟨_, List.getElem?_eq_getElem hlt⟩
        obtain ⟨y, hy⟩ : ∃ y, b[k]? = some y := ⟨_, List.getElem?_eq_getElem hlt2⟩
        obtain ⟨ba, oa, rfl, hbA, hc⟩ := b3 (by rintro rfl; simp at hlt)
        obtain ⟨bb, ob, rfl, hbB, hd⟩ := c3 (by rintro rfl; simp at hlt2)
        obtain ⟨cs, ⟨rfl, hok⟩, _, hu⟩ := hc k _ hx
        obtain ⟨ds, ⟨rfl, hok2⟩, _, hv⟩ := hd k _ hy
        have e0 : w.cell? ⟨ba, oa + k, none⟩ = some (.string x) := by simpa using hu 0 _ rfl
        have g0 : w.cell? ⟨bb, ob + k, none⟩ = some (.string y) := by simpa using hv 0 _ rfl
        have HT := hid (take_eq_succ hx hy hrel.out)
        have HXY : Hid (a = b → x = y) := fun e => by subst e; rw [hx] at hy; exact Option.some.inj hy
        have hi1 : ((k : Int)) < (a.length : Int) := by omega
        have hi2 : ((k : Int)) < (b.length : Int) := by omega
        clear hu hv hc hd b3 c3 hx hy hok hok2
        rcases hxy : (x.toList == y.toList)
        · have hne : x ≠ y := fun e => by rw [e] at hxy; simp at hxy
          have hxy2 : (x.toList != y.toList) = true := by simp [bne, hxy]
          go_wp2_with fail
          go_quiet (fail)
          go_wp2_with fail
          go_ret
          exact ⟨ret_bool (by simpa using fun e => hne (HXY.out e)), q + nq, by first | rfl | exact World.drewN_drewN _ _ _⟩
        · have hE := hid ((bytes_inj x y).1 (by simpa using hxy))
          have hxy2 : (x.toList != y.toList) = false := by simp [bne, hxy]
          go_wp2_with fail
          go_quiet (fail)
          go_wp2_with fail
          go_roundw
          case rel => exact ⟨k + 1, by omega, by go_num, HT.out.2 hE.out, q + nq, by first | rfl | exact World.drewN_drewN _ _ _⟩
          case measure => simp [intOf]; omega
      · obtain rfl : k = a.length := by omega
        have HR := hid hrel.out
        clear hrel
        go_wp2_with fail
        go_ret
        refine ⟨ret_bool ?_, q, rfl⟩
        have h1 := HR.out
        rw [List.take_of_length_le (Nat.le_refl _), List.take_of_length_le (by rw [HL.out]; exact Nat.le_refl _)] at h1
        simp [h1]
  · have hl' : ((a.length : Int) != (b.length : Int)) = true := by simp; omega
    have HL := hid hl
    clear hl
    go_enter Tryz.func159, Tryz.ntmps159
    go_wp2_with fail
    go_ret
    refine ⟨ret_bool ?_, 0, rfl⟩
    have : a ≠ b := fun e => HL.out (by rw [e])
    simp [this]
set_option maxHeartbeats 2000000 in
theorem opSame_any (a b : Vw) (va vb : Value) (w : World) (ha : SlP w w.heap.size 1 StE va a.l) (hb : SlP w w.heap.size 1 StE vb b.l) :
    Calls Tryz.prog 86 #[.agg #[.int .i64 a.kind, .bool a.on, .int .i64 a.n, va], .agg #[.int .i64 b.kind, .bool b.on, .int .i64 b.n, vb]] w fun e w' => e = .returned (.bool (vwEq a b)) ∧ Below w.heap.size w w' := by
  have HA : Hid (∀ w', Below w.heap.size w w' → SlP w' w'.heap.size 1 StE va a.l) := fun w' hb => ha.imp hb hb.size fun _ _ _ h => h
  have HB : Hid (∀ w', Below w.heap.size w w' → SlP w' w'.heap.size 1 StE vb b.l) := fun w' hw => hb.imp hw hw.size fun _ _ _ h => h
  obtain ⟨A1, n1, rfl, _⟩ := ha
  obtain ⟨A2, n2, rfl, _⟩ := hb
  obtain ⟨ka, ona, na, la⟩ := a
  obtain ⟨kb, onb, nb, lb⟩ := b
  simp only at HA HB ⊢
  have hb0 : Below w.heap.size w ((w.alloc (.cells #[.int .i64 ka, .bool ona, .int .i64 na, .slice A1 la.length n1] 86)).alloc (.cells #[.int .i64 kb, .bool onb, .int .i64 nb, .slice A2 lb.length n2] 86)) := ((Below.refl _ w).alloc (Nat.le_refl _) _).alloc (by simp) _
  have HE : Hid (vwEq ⟨ka, ona, na, la⟩ ⟨kb, onb, nb, lb⟩ = (decide (ka = kb) && (decide (ona = onb) && (decide (na = nb) && decide (la = lb))))) := rfl
  have hne : w.heap.size ≠ w.heap.size + 1 := by omega
  by_cases h1 : ka = kb
  case neg =>
    have e1 : (ka == kb) = false := by simpa using h1
    have hR : Hid (vwEq ⟨ka, ona, na, la⟩ ⟨kb, onb, nb, lb⟩ = false) := by unfold Hid; rw [HE.out]; simp [h1]
    clear h1
    go_enter Tryz.func86, Tryz.ntmps86
    go_wp2_with fail
    go_ret
    exact ⟨ret_bool hR.out.symm, hb0⟩
  by_cases h2 : ona = onb
  case neg =>
    have e1 : (ka == kb) = true := by simpa using h1
    have e2 : (ona == onb) = false := by simpa using h2
    have hR : Hid (vwEq ⟨ka, ona, na, la⟩ ⟨kb, onb, nb, lb⟩ = false) := by unfold Hid; rw [HE.out]; simp [h2]
    clear h1 h2
    go_enter Tryz.func86, Tryz.ntmps86
    go_wp2_with fail
    go_ret
    exact ⟨ret_bool hR.out.symm, hb0⟩
  by_cases h3 : na = nb
  case neg =>
    have e1 : (ka == kb) = true := by simpa using h1
    have e2 : (ona == onb) = true := by simpa using h2
    have e3 : (na == nb) = false := by simpa using h3
    have hR : Hid (vwEq ⟨ka, ona, na, la⟩ ⟨kb, onb, nb, lb⟩ = false) := by unfold Hid; rw [HE.out]; simp [h3]
    clear h1 h2 h3
    go_enter Tryz.func86, Tryz.ntmps86
    go_wp2_with fail
    go_ret
    exact ⟨ret_bool hR.out.symm, hb0⟩
  have e1 : (ka == kb) = true := by simpa using h1
  have e2 : (ona == onb) = true := by simpa using h2
  have e3 : (na == nb) = true := by simpa using h3
  have hR : Hid (vwEq ⟨ka, ona, na, la⟩ ⟨kb, onb, nb, lb⟩ = decide (la = lb)) := by unfold Hid; rw [HE.out]; simp [h1, h2, h3]
  clear h1 h2 h3
  have HB0 := hid hb0
  clear hb0
  go_enter Tryz.func86, Tryz.ntmps86
  go_wp2_with fail
  refine (eqStr_any la lb _ _ _ _ (HA.out _ HB0.out) (HB.out _ HB0.out)).mono ?_
  rintro e w1 ⟨rfl, q, rfl⟩
  go_wp2_with fail
  go_ret
  exact ⟨ret_bool hR.out.symm, HB0.out.trans ((below_drewN (Below.refl _ _) q).mono HB0.out.size)⟩
set_option maxHeartbeats 2000000 in
theorem r15same_any (a b : Vw) (va vb : Value) (w : World) (ha : SlP w w.heap.size 1 StE va a.l) (hb : SlP w w.heap.size 1 StE vb b.l) :
    Calls Tryz.prog 81 #[.agg #[.int .i64 a.kind, .bool a.on, .int .i64 a.n, va], .agg #[.int .i64 b.kind, .bool b.on, .int .i64 b.n, vb]] w fun e w' => e = .returned (.bool (vwEq a b)) ∧ Below w.heap.size w w' := by
  have HA : Hid (∀ w', Below w.heap.size w w' → SlP w' w'.heap.size 1 StE va a.l) := fun w' hb => ha.imp hb hb.size fun _ _ _ h => h
  have HB : Hid (∀ w', Below w.heap.size w w' → SlP w' w'.heap.size 1 StE vb b.l) := fun w' hw => hb.imp hw hw.size fun _ _ _ h => h
  obtain ⟨A1, n1, rfl, _⟩ := ha
  obtain ⟨A2, n2, rfl, _⟩ := hb
  obtain ⟨ka, ona, na, la⟩ := a
  obtain ⟨kb, onb, nb, lb⟩ := b
  simp only at HA HB ⊢
  have hb0 : Below w.heap.size w ((w.alloc (.cells #[.int .i64 ka, .bool ona, .int .i64 na, .slice A1 la.length n1] 86)).alloc (.cells #[.int .i64 kb, .bool onb, .int .i64 nb, .slice A2 lb.length n2] 86)) := ((Below.refl _ w).alloc (Nat.le_refl _) _).alloc (by simp) _
  have HE : Hid (vwEq ⟨ka, ona, na, la⟩ ⟨kb, onb, nb, lb⟩ = (decide (ka = kb) && (decide (ona = onb) && (decide (na = nb) && decide (la = lb))))) := rfl
  have hne : w.heap.size ≠ w.heap.size + 1 := by omega
  by_cases h1 : ka = kb
  case neg =>
    have e1 : (ka == kb) = false := by simpa using h1
    have hR : Hid (vwEq ⟨ka, ona, na, la⟩ ⟨kb, onb, nb, lb⟩ = false) := by unfold Hid; rw [HE.out]; simp [h1]
    clear h1
    go_enter Tryz.func81, Tryz.ntmps81
    go_wp2_with fail
    go_ret
    exact ⟨ret_bool hR.out.symm, hb0⟩
  by_cases h2 : ona = onb
  case neg =>
    have e1 : (ka == kb) = true := by simpa using h1
    have e2 : (ona == onb) = false := by simpa using h2
    have hR : Hid (vwEq ⟨ka, ona, na, la⟩ ⟨kb, onb, nb, lb⟩ = false) := by unfold Hid; rw [HE.out]; simp [h2]
    clear h1 h2
    go_enter Tryz.func81, Tryz.ntmps81
    go_wp2_with fail
    go_ret
    exact ⟨ret_bool hR.out.symm, hb0⟩
  by_cases h3 : na = nb
  case neg =>
    have e1 : (ka == kb) = true := by simpa using h1
    have e2 : (ona == onb) = true := by simpa using h2
    have e3 : (na == nb) = false := by simpa using h3
    have hR : Hid (vwEq ⟨ka, ona, na, la⟩ ⟨kb, onb, nb, lb⟩ = false) := by unfold Hid; rw [HE.out]; simp [h3]
    clear h1 h2 h3
    go_enter Tryz.func81, Tryz.ntmps81
    go_wp2_with fail
    go_ret
    exact ⟨ret_bool hR.out.symm, hb0⟩
  have e1 : (ka == kb) = true := by simpa using h1
  have e2 : (ona == onb) = true := by simpa using h2
  have e3 : (na == nb) = true := by simpa using h3
  have hR : Hid (vwEq ⟨ka, ona, na, la⟩ ⟨kb, onb, nb, lb⟩ = decide (la = lb)) := by unfold Hid; rw [HE.out]; simp [h1, h2, h3]
  clear h1 h2 h3
  have HB0 := hid hb0
  clear hb0
  go_enter Tryz.func81, Tryz.ntmps81
  go_wp2_with fail
  refine (r10alike_any la lb _ _ _ _ (HA.out _ HB0.out) (HB.out _ HB0.out)).mono ?_
  rintro e w1 ⟨rfl, q, rfl⟩
  go_wp2_with fail
  go_ret
  exact ⟨ret_bool hR.out.symm, HB0.out.trans ((below_drewN (Below.refl _ _) q).mono HB0.out.size)⟩
end Go.Proofs.YtmphgnjodangcaaGreat

namespace Go.Proofs.YtmphgnjodangcaaGreat
open Go.RowKit
set_option maxRecDepth 100000

/-- Are a change's texts short? -/
def shortB (o : Opr) : Bool := decide (o.path.length ≤ 9) && (decide (o.s.size ≤ 99) && o.path.all fun k => decide (k.size ≤ 99))
end Go.Proofs.YtmphgnjodangcaaGreat

namespace Go.Proofs.YtmphgnjodangcaaGreat
open Go.RowKit
set_option maxRecDepth 100000

/-- The letters that were looked at aren't the key's first one. -/
def NoKd (x : Int) (n : Nat) : Prop := (0 < n → (x == 102) = false) ∧ (1 < n → (x == 115) = false) ∧ (2 < n → (x == 99) = false) ∧ (3 < n → (x == 114) = false) ∧ (4 < n → (x == 109) = false)
theorem let0 : ((({ data := #[102, 115, 99, 114, 109] } : ByteArray)[0]'(by decide)).toNat : Int) = 102 := rfl
theorem let1 : ((({ data := #[102, 115, 99, 114, 109] } : ByteArray)[1]'(by decide)).toNat : Int) = 115 := rfl
theorem let2 : ((({ data := #[102, 115, 99, 114, 109] } : ByteArray)[2]'(by decide)).toNat : Int) = 99 := rfl
theorem let3 : ((({ data := #[102, 115, 99, 114, 109] } : ByteArray)[3]'(by decide)).toNat : Int) = 114 := rfl
theorem let4 : ((({ data := #[102, 115, 99, 114, 109] } : ByteArray)[4]'(by decide)).toNat : Int) = 109 := rfl
set_option maxHeartbeats 2000000 in
theorem r15kind_any (k : ByteArray) (w : World) (hk : k.size ≤ Big) :
    Calls Tryz.prog 75 #[.string k] w fun e w' => e = .returned (.int .i64 (kindB k)) ∧ Below w.heap.size w w' := by
  unfold Big at hk
  by_cases h0 : 0 < k.size
  · have HK := hid (kindB_get h0)
    go_enter Tryz.func75, Tryz.ntmps75
    go_wp2_with fail
    go_loopw [7] (fun i wr => ∃ n : Nat, n ≤ 5 ∧ i = .int .i64 n ∧ Hid (NoKd (k[0].toNat : Int) n) ∧ Below w.heap.size w wr) (fun i _ => 5 - (intOf i).toNat)
    case atStart => exact ⟨0, by omega, rfl, ⟨fun h => by omega, fun h => by omega, fun h => by omega, fun h => by omega, fun h => by omega⟩, Below.refl _ _⟩
    case round =>
      obtain ⟨n, hn, rfl, hno, hb⟩ := hrel
      rcases (show n = 0 ∨ n = 1 ∨ n = 2 ∨ n = 3 ∨ n = 4 ∨ n = 5 by omega) with rfl | rfl | rfl | rfl | rfl | rfl
      · skip
        go_upto_region 5 with (fail)
        refine wp_region_far wr.heap.size (by kernel_rfl) (by kernel_rfl) ?_
        repeat (go_big_quiet_step (fail))
        refine wpQuiet_nil ?_
        intro wq hbq
        have hB := hb.trans (hbq.mono hb.size)
        clear hbq
        simp only [let0]
        go_wp2_with fail
        all_goals first
          | (refine ⟨⟨1, by omega, by go_num, ⟨fun _ => by assumption, fun h => (by omega), fun h => (by omega), fun h => (by omega), fun h => (by omega)⟩, hB⟩, ?_⟩; simp [intOf]; done)
          | (go_ret; exact ⟨ret_int (by rw [HK.out]; simp_all), hB⟩)
          | trace_state
      · have k0 := hno.out.1 (by omega)
        have HN0 := hid k0
        go_upto_region 5 with (fail)
        refine wp_region_far wr.heap.size (by kernel_rfl) (by kernel_rfl) ?_
        repeat (go_big_quiet_step (fail))
        refine wpQuiet_nil ?_
        intro wq hbq
        have hB := hb.trans (hbq.mono hb.size)
        clear hbq
        simp only [let1]
        go_wp2_with fail
        all_goals first
          | (refine ⟨⟨2, by omega, by go_num, ⟨fun _ => HN0.out, fun _ => by assumption, fun h => (by omega), fun h => (by omega), fun h => (by omega)⟩, hB⟩, ?_⟩; simp [intOf]; done)
          | (go_ret; exact ⟨ret_int (by rw [HK.out]; simp_all), hB⟩)
          | trace_state
      · have k0 := hno.out.1 (by omega)
        have HN0 := hid k0
        have k1 := hno.out.2.1 (by omega)
        have HN1 := hid k1
        go_upto_region 5 with (fail)
        refine wp_region_far wr.heap.size (by kernel_rfl) (by kernel_rfl) ?_
        repeat (go_big_quiet_step (fail))
        refine wpQuiet_nil ?_
        intro wq hbq
        have hB := hb.trans (hbq.mono hb.size)
        clear hbq
        simp only [let2]
        go_wp2_with fail
        all_goals first
          | (refine ⟨⟨3, by omega, by go_num, ⟨fun _ => HN0.out, fun _ => HN1.out, fun _ => by assumption, fun h => (by omega), fun h => (by omega)⟩, hB⟩, ?_⟩; simp [intOf]; done)
          | (go_ret; exact ⟨ret_int (by rw [HK.out]; simp_all), hB⟩)
          | trace_state
      · have k0 := hno.out.1 (by omega)
        have HN0 := hid k0
        have k1 := hno.out.2.1 (by omega)
        have HN1 := hid k1
        have k2 := hno.out.2.2.1 (by omega)
        have HN2 := hid k2
        go_upto_region 5 with (fail)
        refine wp_region_far wr.heap.size (by kernel_rfl) (by kernel_rfl) ?_
        repeat (go_big_quiet_step (fail))
        refine wpQuiet_nil ?_
        intro wq hbq
        have hB := hb.trans (hbq.mono hb.size)
        clear hbq
        simp only [let3]
        go_wp2_with fail
        all_goals first
          | (refine ⟨⟨4, by omega, by go_num, ⟨fun _ => HN0.out, fun _ => HN1.out, fun _ => HN2.out, fun _ => by assumption, fun h => (by omega)⟩, hB⟩, ?_⟩; simp [intOf]; done)
          | (go_ret; exact ⟨ret_int (by rw [HK.out]; simp_all), hB⟩)
          | trace_state
      · have k0 := hno.out.1 (by omega)
        have HN0 := hid k0
        have k1 := hno.out.2.1 (by omega)
        have HN1 := hid k1
        have k2 := hno.out.2.2.1 (by omega)
        have HN2 := hid k2
        have k3 := hno.out.2.2.2.1 (by omega)
        have HN3 := hid k3
        go_upto_region 5 with (fail)
        refine wp_region_far wr.heap.size (by kernel_rfl) (by kernel_rfl) ?_
        repeat (go_big_quiet_step (fail))
        refine wpQuiet_nil ?_
        intro wq hbq
        have hB := hb.trans (hbq.mono hb.size)
        clear hbq
        simp only [let4]
        go_wp2_with fail
        all_goals first
          | (refine ⟨⟨5, by omega, by go_num, ⟨fun _ => HN0.out, fun _ => HN1.out, fun _ => HN2.out, fun _ => HN3.out, fun _ => by assumption⟩, hB⟩, ?_⟩; simp [intOf]; done)
          | (go_ret; exact ⟨ret_int (by rw [HK.out]; simp_all), hB⟩)
          | trace_state
      · have k0 := hno.out.1 (by omega)
        have HN0 := hid k0
        clear k0
        have k1 := hno.out.2.1 (by omega)
        have HN1 := hid k1
        clear k1
        have k2 := hno.out.2.2.1 (by omega)
        have HN2 := hid k2
        clear k2
        have k3 := hno.out.2.2.2.1 (by omega)
        have HN3 := hid k3
        clear k3
        have k4 := hno.out.2.2.2.2 (by omega)
        have HN4 := hid k4
        clear k4
        go_wp2_with fail
        go_ret
        exact ⟨ret_int (by rw [HK.out, HN0.out, HN1.out, HN2.out, HN3.out, HN4.out]; rfl), hb⟩
  · rw [kindB_no h0]
    have h0' : k.size = 0 := by omega
    go_enter Tryz.func75, Tryz.ntmps75
    go_wp2_with fail
    go_loopw [7] (fun i wr => ∃ n : Nat, n ≤ 5 ∧ i = .int .i64 n ∧ Below w.heap.size w wr) (fun i _ => 5 - (intOf i).toNat)
    case atStart => exact ⟨0, by omega, rfl, Below.refl _ _⟩
    case round =>
      obtain ⟨n, hn, rfl, hb⟩ := hrel
      by_cases h5 : n < 5
      · go_upto_region 5 with (fail)
        refine wp_region_far wr.heap.size (by kernel_rfl) (by kernel_rfl) ?_
        repeat (go_big_quiet_step (fail))
        refine wpQuiet_nil ?_
        intro wq hbq
        have hB := hb.trans (hbq.mono hb.size)
        clear hbq
        go_wp2_with fail
        all_goals (refine ⟨⟨n + 1, by omega, by go_num, hB⟩, ?_⟩; simp [intOf]; omega)
      · obtain rfl : n = 5 := by omega
        go_wp2_with fail
        go_ret
        exact ⟨rfl, hb⟩
theorem any_no {α : Type} {f : α → Bool} {l : List α} (h : ∀ (j : Nat) x, j < l.length → l[j]? = some x → f x = false) : l.any f = false := by
  rw [List.any_eq_false]
  intro x hx
  obtain ⟨j, hj⟩ := List.getElem?_of_mem hx
  rw [h j x (List.getElem?_eq_some_iff.1 hj).1 hj]; simp
theorem any_yes {α : Type} {f : α → Bool} {l : List α} {j : Nat} {x : α} (h : l[j]? = some x) (hf : f x = true) : l.any f = true := List.any_eq_true.2 ⟨x, List.mem_of_getElem? h, hf⟩
set_option maxHeartbeats 4000000 in
theorem r15path_any (p : List ByteArray) (vp : Value) (w : World) (h : SlP w w.heap.size 1 StE vp p) :
    Calls Tryz.prog 83 #[vp] w fun e w' => e = .returned (.int .i64 (pathI p)) ∧ Below w.heap.size w w' := by
  obtain ⟨A, c, rfl, c1, c2, c3⟩ := h
  unfold Big at c2
  go_enter Tryz.func83, Tryz.ntmps83
  by_cases h1 : p.length = 0
  · have hP : pathI p = 1 := by unfold pathI; rw [if_pos (.inl (by omega))]
    rw [hP]
    clear hP
    go_wp2_with fail
    go_ret
    exact ⟨rfl, Below.refl _ _⟩
  by_cases h3 : 3 < p.length
  · have hP : pathI p = 1 := by unfold pathI; rw [if_pos (.inr (.inl h3))]
    rw [hP]
    clear hP
    have h1' : ((p.length : Int) == 0) = false := by simpa using h1
    go_wp2_with fail
    go_ret
    exact ⟨rfl, Below.refl _ _⟩
  have h1' : ((p.length : Int) == 0) = false := by simpa using h1
  have h3' : decide ((3 : Int) < p.length) = false := by simp; omega
  go_wp2_with fail
  go_loopw [15] (fun i wr => ∃ k : Nat, k ≤ p.length ∧ i = .int .i64 k ∧ Hid (∀ (j : Nat) x, j < k → p[j]? = some x → badKey x = false) ∧ Below w.heap.size w wr) (fun i _ => p.length - (intOf i).toNat)
  case atStart => exact ⟨0, Nat.zero_le _, rfl, fun j x hj => absurd hj (Nat.not_lt_zero _), Below.refl _ _⟩
  case round =>
    obtain ⟨k, hk, rfl, hno, hb⟩ := hrel
    by_cases hlt : k < p.length
    · obtain ⟨x, hx⟩ : ∃ x, p[k]? = some x := ⟨_, List.getElem?_eq_getElem hlt⟩
      obtain ⟨b, off, rfl, hbB, hc⟩ := c3 (by rintro rfl; simp at hlt)
      obtain ⟨cs, ⟨rfl, hok⟩, _, hu⟩ := hc k _ hx
      have e0 : wr.cell? ⟨b, off + k, none⟩ = some (.string x) := (hb.cell hbB).trans (by simpa using hu 0 _ rfl)
      have HX := hid hx
      have HOK := hid hok
      unfold Big at hok
      clear hu hc hx
      by_cases hl : 30 < x.size
      · have HB : Hid (badKey x = true) := by unfold Hid badKey; simp [hl]
        go_wp2_with fail
        go_ret
        exact ⟨ret_int (by unfold pathI; rw [if_pos (.inr (.inr (any_yes HX.out HB.out)))]), hb⟩
      · go_wp2_with fail
        refine (r15kind_any x _ HOK.out).mono ?_
        by_cases hk0 : kindB x = 0
        · have HB : Hid (badKey x = true) := by unfold Hid badKey; simp [hk0]
          rw [hk0]
          rintro e w1 ⟨rfl, hb1⟩
          have hB := hb.trans (hb1.mono hb.size)
          clear hk0
          go_wp2_with fail
          go_ret
          exact ⟨ret_int (by unfold pathI; rw [if_pos (.inr (.inr (any_yes HX.out HB.out)))]), hB⟩
        · have HB : Hid (badKey x = false) := by unfold Hid badKey; simp [hk0]; omega
          have hkz : (kindB x == 0) = false := by simpa using hk0
          rintro e w1 ⟨rfl, hb1⟩
          have hB := hb.trans (hb1.mono hb.size)
          clear hk0
          go_wp2_with fail
          go_roundw
          case rel =>
            refine ⟨k + 1, by omega, by go_num, fun j y hj hy => ?_, hB⟩
            rcases (show j < k ∨ j = k by omega) with h | rfl
            · exact hno.out j y h hy
            · have := HX.out; rw [hy] at this; cases this; exact HB.out
          case measure => simp [intOf]; omega
    · obtain rfl : k = p.length := by omega
      have HN : Hid (p.any badKey = false) := any_no hno.out
      have HPI : Hid (pathI p = if p.dropLast.any noMap then 6 else 0) := by unfold Hid pathI; rw [if_neg (by rintro (h | h | h) <;> first | omega | (rw [HN.out] at h; cases h))]
      obtain ⟨wz, hwz⟩ : ∃ z, z = wr := ⟨_, rfl⟩
      subst hwz
      go_wp2_with fail
      go_loopw [35] (fun i wr => ∃ k : Nat, k ≤ p.length ∧ i = .int .i64 k ∧ Hid (∀ (j : Nat) x, j < k → p.dropLast[j]? = some x → noMap x = false) ∧ Below w.heap.size w wr) (fun i _ => p.length - (intOf i).toNat)
      case atStart => exact ⟨0, Nat.zero_le _, rfl, fun j x hj => absurd hj (Nat.not_lt_zero _), hb⟩
      case round =>
        obtain ⟨k, hk, rfl, hno2, hb⟩ := hrel
        by_cases hlt : k < p.length
        · obtain ⟨x, hx⟩ : ∃ x, p[k]? = some x := ⟨_, List.getElem?_eq_getElem hlt⟩
          obtain ⟨b, off, rfl, hbB, hc⟩ := c3 (by rintro rfl; simp at hlt)
          obtain ⟨cs, ⟨rfl, hok⟩, _, hu⟩ := hc k _ hx
          have e0 : wr.cell? ⟨b, off + k, none⟩ = some (.string x) := (hb.cell hbB).trans (by simpa using hu 0 _ rfl)
          have HX := hid hx
          have HOK := hid hok
          clear hu hc hx hok
          by_cases hl : k + 1 < p.length
          · have HD : Hid (p.dropLast[k]? = some x) := by unfold Hid; rw [List.dropLast_eq_take, List.getElem?_take, if_pos (by omega)]; exact HX.out
            have hl' : (k : Int) < (p.length : Int) - 1 := by omega
            go_wp2_with fail
            refine (r15kind_any x _ HOK.out).mono ?_
            by_cases hk5 : kindB x = 5
            · have HB : Hid (noMap x = false) := by unfold Hid noMap; simp [hk5]
              rw [hk5]
              rintro e w1 ⟨rfl, hb1⟩
              have hB := hb.trans (hb1.mono hb.size)
              clear hk5
              go_wp2_with fail
              go_roundw
              case rel =>
                refine ⟨k + 1, by omega, by go_num, fun j y hj hy => ?_, hB⟩
                rcases (show j < k ∨ j = k by omega) with h | rfl
                · exact hno2.out j y h hy
                · have := HD.out; rw [hy] at this; cases this; exact HB.out
              case measure => simp [intOf]; omega
            · have HB : Hid (noMap x = true) := by unfold Hid noMap; simp [hk5]
              have hkz : (kindB x == 5) = false := by simpa using hk5
              rintro e w1 ⟨rfl, hb1⟩
              have hB := hb.trans (hb1.mono hb.size)
              clear hk5
              go_wp2_with fail
              go_ret
              exact ⟨ret_int (by rw [HPI.out, any_yes HD.out HB.out]; rfl), hB⟩
          · have hl' : ¬ (k : Int) < (p.length : Int) - 1 := by omega
            go_wp2_with fail
            go_roundw
            case rel =>
              refine ⟨k + 1, by omega, by go_num, fun j y hj hy => ?_, hb⟩
              have hjl := (List.getElem?_eq_some_iff.1 hy).1
              rw [List.length_dropLast] at hjl
              exact hno2.out j y (by omega) hy
            case measure => simp [intOf]; omega
        · obtain rfl : k = p.length := by omega
          have HN2 : Hid (p.dropLast.any noMap = false) := any_no fun j x hj hx => hno2.out j x (by rw [List.length_dropLast] at hj; omega) hx
          go_wp2_with fail
          go_ret
          exact ⟨ret_int (by rw [HPI.out, HN2.out]; rfl), hb⟩
end Go.Proofs.YtmphgnjodangcaaGreat

namespace Go.Proofs.YtmphgnjodangcaaGreat
open Go.RowKit
set_option maxRecDepth 100000

set_option maxHeartbeats 8000000 in
theorem r15op_any (o : Opr) (vp : Value) (w : World) (h : SlP w w.heap.size 1 StE vp o.path) (ho : o.Ok) :
    Calls Tryz.prog 85 #[.agg #[vp, .int .i64 o.act, .string o.s, .int .i64 o.n]] w fun e w' => e = .returned (.int .i64 (opI o)) ∧ Below w.heap.size w w' := by
  have HC : Hid (∀ w', Below w.heap.size w w' → SlP w' w'.heap.size 1 StE vp o.path) := fun w' hb => h.imp hb hb.size fun _ _ _ h => h
  obtain ⟨A, c, rfl, c1, c2, c3⟩ := h
  have hs := ho.s
  unfold Big at c2 hs
  obtain ⟨path, act, s, n⟩ := o
  simp only at HC c1 c2 c3 hs ⊢
  have HX : Hid (∀ W, Below (w.heap.size + 1) (w.alloc (.cells #[.slice A path.length c, .int .i64 act, .string s, .int .i64 n] 80)) W → (Below w.heap.size w W ∧ SlP W W.heap.size 1 StE (.slice A path.length c) path ∧ W.cell? ⟨w.heap.size, 0, none⟩ = some (.slice A path.length c) ∧ W.cell? ⟨w.heap.size, 1, none⟩ = some (.int .i64 act) ∧ W.cell? ⟨w.heap.size, 2, none⟩ = some (.string s) ∧ W.cell? ⟨w.heap.size, 3, none⟩ = some (.int .i64 n))) := fun W hW => by
    have g0 : W.heap[w.heap.size]? = some (.cells #[.slice A path.length c, .int .i64 act, .string s, .int .i64 n] 80 (0, 0)) := (hW.block _ (by omega)).trans (heap_new rfl)
    have hB : Below w.heap.size w W := ((Below.refl _ w).alloc (Nat.le_refl _) _).trans (hW.mono (by omega))
    exact ⟨hB, HC.out _ hB, cell_cells (i := 0) g0, cell_cells (i := 1) g0, cell_cells (i := 2) g0, cell_cells (i := 3) g0⟩
  go_enter Tryz.func85, Tryz.ntmps85
  go_wp2_with fail
  obtain ⟨hB, hp, q0, q1, q2, q3⟩ := HX.out _ (Below.refl _ _)
  refine (r15path_any path _ _ hp).mono ?_
  rintro e w1 ⟨rfl, hb1⟩
  have HB1 := hid (hb1.mono (show w.heap.size + 1 ≤ _ by simp))
  clear hB hp q0 q1 q2 q3 hb1
  obtain ⟨hB, hp, q0, q1, q2, q3⟩ := HX.out _ HB1.out
  by_cases hpz : pathI path = 0
  case neg =>
    have hO : Hid (opI ⟨path, act, s, n⟩ = pathI path) := by unfold Hid opI; simp only; rw [if_pos hpz]
    have hne : (pathI path == 0) = false := by simpa using hpz
    clear hpz
    go_wp2_with fail
    go_ret
    exact ⟨ret_int hO.out.symm, hB⟩
  have hpl := (path_ok hpz).1
  have hpu := (path_ok hpz).2.1
  have HPZ := hid hpz
  rw [hpz]
  clear hpz
  obtain ⟨bq, offq, hAq, hbq, hcq⟩ := c3 (by rintro rfl; simp at hpl)
  subst hAq
  obtain ⟨cs, ⟨rfl, hok⟩, _, hu⟩ := hcq (path.length - 1) _ (last_at hpl)
  have e0 := (hB.cell (p := ⟨bq, offq + (path.length - 1), none⟩) hbq).trans (by simpa using hu 0 _ rfl)
  have HOK := hid hok
  have hbq1 : bq < w1.heap.size := by have := hB.size; omega
  have hl1 : w.heap.size < w1.heap.size := by have := HB1.out.size; simp at this; omega
  clear hu hcq c3 hok
  go_upto_region 4 with (fail)
  have HQK := hid (fun (w2 : World) (_ : Below w1.heap.size w1 w2) => r15kind_any (lastK path) w2 HOK.out)
  have HQA := hid (fun (w2 : World) (_ : Below w1.heap.size w1 w2) => act15_any act (kindB (lastK path)) w2)
  have f0 := far_cell (B := w1.heap.size) q0 (by simpa using hl1)
  have f1 := far_cell (B := w1.heap.size) q1 (by simpa using hl1)
  have f2 := far_cell (B := w1.heap.size) e0 (by simpa using hbq1)
  refine wp_region_far w1.heap.size (by kernel_rfl) (by kernel_rfl) ?_
  repeat (go_big_quiet_step (first | (go_at_call 75; with_reducible exact Calls.far_all (Nat.le_refl _) HQK.out) | (go_at_call 158; with_reducible exact Calls.far_all (Nat.le_refl _) HQA.out)))
  refine wpQuiet_nil ?_
  intro w2 hb2
  have HB3 := hid (HB1.out.trans (hb2.mono (by omega)))
  clear f0 f1 f2 hB hp q0 q1 q2 q3 hb2 e0 HQK HQA
  obtain ⟨hB, hp, q0, q1, q2, q3⟩ := HX.out _ HB3.out
  cases ha : actB act (kindB (lastK path))
  · have HO : Hid (opI ⟨path, act, s, n⟩ = 6) := by unfold Hid opI; simp only; rw [if_neg (by rw [HPZ.out]; simp), if_pos (by rw [ha]; rfl)]
    clear ha
    go_wp2_with fail
    go_ret
    exact ⟨ret_int HO.out.symm, hB⟩
  have HA' := hid ha
  have hac : act = 1 ∨ act = 2 ∨ act = 3 ∨ act = 4 ∨ act = 5 ∨ act = 6 ∨ act = 7 := by
    unfold actB at ha
    split at ha
    · omega
    · split at ha
      · omega
      · split at ha
        · omega
        · split at ha
          · omega
          · have := of_decide_eq_true ha; omega
  clear ha
  rcases hac with rfl | rfl | rfl | rfl | rfl | rfl | rfl
  · have HA := HA'
    have HE : Hid (∀ (s : ByteArray) (n : Int), opI ⟨path, 1, s, n⟩ = if s.size = 0 ∧ n = 0 then 0 else 1) := by
      intro s n
      rw [chk_err HPZ.out HA.out]
      unfold opTxt opNum keyB
      simp
    go_wp2_with fail
    all_goals (go_ret; refine ⟨ret_int ?_, hB⟩; rw [HE.out])
    all_goals (try simp only [Bool.not_eq_eq_eq_not] at *)
    all_goals (try simp only [Bool.not_true] at *)
    all_goals (try simp only [Bool.not_false] at *)
    all_goals (try simp only [bne_iff_ne] at *)
    all_goals (try simp only [ne_eq] at *)
    all_goals (try simp only [bne_eq_false_iff_eq] at *)
    all_goals (try simp only [tol_nil] at *)
    all_goals (try simp only [tol_f] at *)
    all_goals (try simp only [tol_t] at *)
    all_goals (first | (exfalso; omega) | (rw [if_pos (by omega)]; done) | (rw [if_neg (by omega)]; done))
  · have HA := HA'
    have HE : Hid (∀ (s : ByteArray) (n : Int), opI ⟨path, 2, s, n⟩ = if s.size = 0 ∧ n = 0 then 0 else 1) := by
      intro s n
      rw [chk_err HPZ.out HA.out]
      unfold opTxt opNum keyB
      simp
    go_wp2_with fail
    all_goals (go_ret; refine ⟨ret_int ?_, hB⟩; rw [HE.out])
    all_goals (try simp only [Bool.not_eq_eq_eq_not] at *)
    all_goals (try simp only [Bool.not_true] at *)
    all_goals (try simp only [Bool.not_false] at *)
    all_goals (try simp only [bne_iff_ne] at *)
    all_goals (try simp only [ne_eq] at *)
    all_goals (try simp only [bne_eq_false_iff_eq] at *)
    all_goals (try simp only [tol_nil] at *)
    all_goals (try simp only [tol_f] at *)
    all_goals (try simp only [tol_t] at *)
    all_goals (first | (exfalso; omega) | (rw [if_pos (by omega)]; done) | (rw [if_neg (by omega)]; done))
  · have HA := HA'
    have HE : Hid (∀ (s : ByteArray) (n : Int), opI ⟨path, 3, s, n⟩ = if (1 ≤ s.size ∧ s.size ≤ 30) ∧ n = 0 then 0 else 1) := by
      intro s n
      rw [chk_err HPZ.out HA.out]
      unfold opTxt opNum keyB
      simp
    go_wp2_with fail
    refine (r08key_any s _).mono ?_
    cases hks : keyB s
    · rintro e w4 ⟨rfl, hb4⟩
      have hB4 := hB.trans (hb4.mono hB.size)
      have HKS : Hid (¬ (1 ≤ s.size ∧ s.size ≤ 30)) := by unfold Hid; unfold keyB at hks; simpa using hks
      clear hks
      go_wp2_with fail
      go_ret
      exact ⟨ret_int (by rw [HE.out, if_neg (fun h => HKS.out h.1)]), hB4⟩
    · rintro e w4 ⟨rfl, hb4⟩
      have HB4 := hid (HB3.out.trans (hb4.mono (by have := HB3.out.size; simp at this; omega)))
      have HKS : Hid (1 ≤ s.size ∧ s.size ≤ 30) := by unfold Hid; unfold keyB at hks; simpa using hks
      clear hB hp q0 q1 q2 q3 hb4 hks
      obtain ⟨hB, hp, q0, q1, q2, q3⟩ := HX.out _ HB4.out
      go_wp2_with fail
      all_goals (go_ret; refine ⟨ret_int ?_, hB⟩; rw [HE.out])
      all_goals (have hks2 := HKS.out)
      all_goals (try simp only [Bool.not_eq_eq_eq_not] at *)
      all_goals (try simp only [Bool.not_true] at *)
      all_goals (try simp only [Bool.not_false] at *)
      all_goals (try simp only [bne_iff_ne] at *)
      all_goals (try simp only [ne_eq] at *)
      all_goals (try simp only [bne_eq_false_iff_eq] at *)
      all_goals (first | (exfalso; omega) | (rw [if_pos (by omega)]; done) | (rw [if_neg (by omega)]; done))
  · have HA := HA'
    have HE : Hid (∀ (s : ByteArray) (n : Int), opI ⟨path, 4, s, n⟩ = if (1 ≤ s.size ∧ s.size ≤ 30) ∧ n = 0 then 0 else 1) := by
      intro s n
      rw [chk_err HPZ.out HA.out]
      unfold opTxt opNum keyB
      simp
    go_wp2_with fail
    refine (r08key_any s _).mono ?_
    cases hks : keyB s
    · rintro e w4 ⟨rfl, hb4⟩
      have hB4 := hB.trans (hb4.mono hB.size)
      have HKS : Hid (¬ (1 ≤ s.size ∧ s.size ≤ 30)) := by unfold Hid; unfold keyB at hks; simpa using hks
      clear hks
      go_wp2_with fail
      go_ret
      exact ⟨ret_int (by rw [HE.out, if_neg (fun h => HKS.out h.1)]), hB4⟩
    · rintro e w4 ⟨rfl, hb4⟩
      have HB4 := hid (HB3.out.trans (hb4.mono (by have := HB3.out.size; simp at this; omega)))
      have HKS : Hid (1 ≤ s.size ∧ s.size ≤ 30) := by unfold Hid; unfold keyB at hks; simpa using hks
      clear hB hp q0 q1 q2 q3 hb4 hks
      obtain ⟨hB, hp, q0, q1, q2, q3⟩ := HX.out _ HB4.out
      go_wp2_with fail
      all_goals (go_ret; refine ⟨ret_int ?_, hB⟩; rw [HE.out])
      all_goals (have hks2 := HKS.out)
      all_goals (try simp only [Bool.not_eq_eq_eq_not] at *)
      all_goals (try simp only [Bool.not_true] at *)
      all_goals (try simp only [Bool.not_false] at *)
      all_goals (try simp only [bne_iff_ne] at *)
      all_goals (try simp only [ne_eq] at *)
      all_goals (try simp only [bne_eq_false_iff_eq] at *)
      all_goals (first | (exfalso; omega) | (rw [if_pos (by omega)]; done) | (rw [if_neg (by omega)]; done))
  · have HA := HA'
    have HE : Hid (∀ (s : ByteArray) (n : Int), opI ⟨path, 5, s, n⟩ = if s.size = 0 ∧ -1099511627776 ≤ n ∧ n ≤ 1099511627776 then 0 else 1) := by
      intro s n
      rw [chk_err HPZ.out HA.out]
      unfold opTxt opNum keyB
      simp
    go_wp2_with fail
    all_goals (go_ret; refine ⟨ret_int ?_, hB⟩; rw [HE.out])
    all_goals (try simp only [Bool.not_eq_eq_eq_not] at *)
    all_goals (try simp only [Bool.not_true] at *)
    all_goals (try simp only [Bool.not_false] at *)
    all_goals (try simp only [bne_iff_ne] at *)
    all_goals (try simp only [ne_eq] at *)
    all_goals (try simp only [bne_eq_false_iff_eq] at *)
    all_goals (try simp only [tol_nil] at *)
    all_goals (try simp only [tol_f] at *)
    all_goals (try simp only [tol_t] at *)
    all_goals (first | (exfalso; omega) | (rw [if_pos (by omega)]; done) | (rw [if_neg (by omega)]; done))
  · have HA := HA'
    have HE : Hid (∀ (s : ByteArray) (n : Int), opI ⟨path, 6, s, n⟩ = if s.size ≤ 30 ∧ n = 0 then 0 else 1) := by
      intro s n
      rw [chk_err HPZ.out HA.out]
      unfold opTxt opNum keyB
      simp
    go_wp2_with fail
    all_goals (go_ret; refine ⟨ret_int ?_, hB⟩; rw [HE.out])
    all_goals (try simp only [Bool.not_eq_eq_eq_not] at *)
    all_goals (try simp only [Bool.not_true] at *)
    all_goals (try simp only [Bool.not_false] at *)
    all_goals (try simp only [bne_iff_ne] at *)
    all_goals (try simp only [ne_eq] at *)
    all_goals (try simp only [bne_eq_false_iff_eq] at *)
    all_goals (try simp only [tol_nil] at *)
    all_goals (try simp only [tol_f] at *)
    all_goals (try simp only [tol_t] at *)
    all_goals (first | (exfalso; omega) | (rw [if_pos (by omega)]; done) | (rw [if_neg (by omega)]; done))
  · have HA := HA'
    have HE : Hid (∀ (s : ByteArray) (n : Int), opI ⟨path, 7, s, n⟩ = if s.size = 0 ∧ n = 0 then 0 else 1) := by
      intro s n
      rw [chk_err HPZ.out HA.out]
      unfold opTxt opNum keyB
      simp
    go_wp2_with fail
    all_goals (go_ret; refine ⟨ret_int ?_, hB⟩; rw [HE.out])
    all_goals (try simp only [Bool.not_eq_eq_eq_not] at *)
    all_goals (try simp only [Bool.not_true] at *)
    all_goals (try simp only [Bool.not_false] at *)
    all_goals (try simp only [bne_iff_ne] at *)
    all_goals (try simp only [ne_eq] at *)
    all_goals (try simp only [bne_eq_false_iff_eq] at *)
    all_goals (try simp only [tol_nil] at *)
    all_goals (try simp only [tol_f] at *)
    all_goals (try simp only [tol_t] at *)
    all_goals (first | (exfalso; omega) | (rw [if_pos (by omega)]; done) | (rw [if_neg (by omega)]; done))
end Go.Proofs.YtmphgnjodangcaaGreat

namespace Go.Proofs.YtmphgnjodangcaaGreat
open Go.RowKit
set_option maxRecDepth 100000

/-- What context.Same tells. -/
def cSame (a b : List Sp) : Bool := apartB a && (apartB b && decide (a = b))
end Go.Proofs.YtmphgnjodangcaaGreat

namespace Go.Proofs.YtmphgnjodangcaaGreat
open Go.RowKit
set_option maxRecDepth 100000

end Go.Proofs.YtmphgnjodangcaaGreat

namespace Go.Proofs.YtmphgnjodangcaaGreat
open Go.RowKit
set_option maxRecDepth 100000

def sumP (es : List En) : Int := (es.map (·.v)).sum
def dd (k : Nat) : Dt := ⟨((k % 4 : Nat) : Int), 1099511627776 - (k : Int)⟩
/-- What the k-th center tells. -/
def cntX (k : Nat) (n : Int) : Kn := (tOne ⟨((k % 4 : Nat) : Int), 1099511627776 - (k : Int), ByteArray.empty, n⟩, ctxOf [dd k])
def cntL (l : List Int) : List Kn := l.mapIdx cntX
def SmallI (n : Int) : Prop := -2147483648 ≤ n ∧ n ≤ 2147483647
end Go.Proofs.YtmphgnjodangcaaGreat

namespace Go.Proofs.YtmphgnjodangcaaGreat
open Go.RowKit
set_option maxRecDepth 100000

/-- One more change that stands and is read: on, number, texts. -/
def stepS (k : Int) (path : List ByteArray) (s : Bool × Int × List ByteArray) (e : Ev) : Bool × Int × List ByteArray :=
  if path.length < e.o.path.length then (s.1, s.2.1, s.2.2 ++ [(e.o.path[path.length]?).getD ByteArray.empty])
  else if k = 1 then (true, s.2.1, s.2.2) else if k = 2 ∨ k = 4 then (s.1, s.2.1, s.2.2 ++ [e.o.s]) else if k = 3 then (s.1, wrap64 (s.2.1 + e.o.n), s.2.2) else s
def takB (l : List Ev) (path : List ByteArray) (e : Ev) : Bool := begB e.o.path path && standB l e
def specF (l : List Ev) (path : List ByteArray) : Bool × Int × List ByteArray := l.foldl (fun s e => if takB l path e then stepS (kindB (lastK path)) path s e else s) (false, 0, [])
/-- What tributaryref15.Spec tells. -/
def specV (l : List Ev) (path : List ByteArray) : Vw := ⟨kindB (lastK path), (specF l path).1, (specF l path).2.1, sdL (specF l path).2.2⟩
theorem valsR {A : Tr} (h : A.right 5 = true) : valsOf A = sdL (txtL A) := by
  unfold valsOf
  rw [if_pos h, sd_eq]
end Go.Proofs.YtmphgnjodangcaaGreat

namespace Go.Proofs.YtmphgnjodangcaaGreat
open Go.RowKit
set_option maxRecDepth 100000

set_option maxHeartbeats 8000000 in
theorem r15read_any (t : Tr) (path : List ByteArray) (ve vk vp : Value) (w : World) (h : t.rd w w.heap.size ve vk) (hp : SlP w w.heap.size 1 StE vp path) (hN : t.sz ≤ 4000) :
    Calls Tryz.prog 80 #[.agg #[ve, vk], vp] w (RetVE w (readV t path) (readI t path)) := by
  have HC : Hid (∀ w', Below w.heap.size w w' → t.rd w' w'.heap.size ve vk) := fun w' hb => rd_below hb hb.size _ _ _ h
  have HD : Hid (∀ w', Below w.heap.size w w' → SlP w' w'.heap.size 1 StE vp path) := fun w' hb => hp.imp hb hb.size fun _ _ _ h => h
  obtain ⟨A3, n3, A4, n4, rfl, rfl⟩ := rd_shape h
  obtain ⟨A5, n5, rfl, p1, p2, p3⟩ := hp
  unfold Big at p2
  have hb0 := ((Below.refl w.heap.size w).alloc (Nat.le_refl _) (.cells #[.slice A3 t.es.length n3, .slice A4 t.ks.length n4] 27)).alloc (by simp) (.cells #[.int .i64 0, .bool false, .int .i64 0, .slice none 0 0] 86)
  have HX : Hid (∀ W, Below (w.heap.size + 2) ((w.alloc (.cells #[.slice A3 t.es.length n3, .slice A4 t.ks.length n4] 27)).alloc (.cells #[.int .i64 0, .bool false, .int .i64 0, .slice none 0 0] 86)) W →
      (Below w.heap.size w W ∧ t.rd W W.heap.size (.slice A3 t.es.length n3) (.slice A4 t.ks.length n4) ∧ SlP W W.heap.size 1 StE (.slice A5 path.length n5) path ∧ W.cell? ⟨w.heap.size, 0, none⟩ = some (.slice A3 t.es.length n3) ∧ W.cell? ⟨w.heap.size, 1, none⟩ = some (.slice A4 t.ks.length n4) ∧ W.heap[w.heap.size + 1]? = some (.cells #[.int .i64 0, .bool false, .int .i64 0, .slice none 0 0] 86 (0, 0)))) := fun W hW => by
    have g0 : W.heap[w.heap.size]? = some (.cells #[.slice A3 t.es.length n3, .slice A4 t.ks.length n4] 27 (0, 0)) := (hW.block _ (by omega)).trans ((heap_old (by simp)).trans (heap_new rfl))
    have g1 : W.heap[w.heap.size + 1]? = some (.cells #[.int .i64 0, .bool false, .int .i64 0, .slice none 0 0] 86 (0, 0)) := (hW.block _ (by omega)).trans (heap_new (by simp))
    have hB := hb0.trans (hW.mono (by omega))
    exact ⟨hB, HC.out _ hB, HD.out _ hB, cell_cells (i := 0) g0, cell_cells (i := 1) g0, g1⟩
  clear h
  go_enter Tryz.func80, Tryz.ntmps80
  go_wp2_with fail
  obtain ⟨hB, rt, rp, c0, c1, g1⟩ := HX.out _ (Below.refl _ _)
  refine (r08Right_any t _ _ _ rt).mono ?_
  cases ht : t.right 5
  · rintro e w1 ⟨rfl, hb1⟩
    have HBN := hid (hb1.mono (show w.heap.size + 2 ≤ _ by simp))
    have hRI : readI t path = 1 := by unfold readI; rw [ht]; rfl
    have HRI := hid hRI
    have HRV := hid (read_err (t := t) (p := path) (by rw [hRI]; decide))
    clear hB rt rp c0 c1 g1 ht hb1 hRI
    have hGZ := (HX.out _ HBN.out).2.2.2.2.2
    have hBz := (HX.out _ HBN.out).1
    have HG := hid hGZ
    have HBZ := hid hBz
    have k0 := cell_cells (i := 0) hGZ
    have k1 := cell_cells (i := 1) hGZ
    have k2 := cell_cells (i := 2) hGZ
    have k3 := cell_cells (i := 3) hGZ
    simp only [List.getElem?_toArray, List.getElem?_cons_zero, List.getElem?_cons_succ] at k0 k1 k2 k3
    have z0 := cells_frz (i := 0) hGZ
    have z1 := cells_frz (i := 1) hGZ
    have z2 := cells_frz (i := 2) hGZ
    have z3 := cells_frz (i := 3) hGZ
    clear hGZ hBz
    go_wp2_with fail
    obtain ⟨r0, r1, r2, r3, hK, hS⟩ := box4 HG.out (.int .i64 0) (.bool false) (.int .i64 0) (.slice none 0 0)
    have hBW := below_box4 HBZ.out (show w.heap.size ≤ w.heap.size + 1 by omega) (.int .i64 0) (.bool false) (.int .i64 0) (.slice none 0 0)
    exact bodyPost_ret (v := .tuple #[.agg #[.int .i64 0, .bool false, .int .i64 0, .slice none 0 0], .int .i64 1]) (by simp [results, Tryz.results80, go_sem, r0, r1, r2, r3] <;> rfl) rfl ⟨_, by rw [HRI.out, HRV.out]; rfl, by rw [HRV.out]; exact SlA.nil, hBW⟩
  rintro e w1 ⟨rfl, hb1⟩
  have HBN := hid (hb1.mono (show w.heap.size + 2 ≤ _ by simp))
  clear hB rt rp c0 c1 g1 hb1
  obtain ⟨hB, rt, rp, c0, c1, g1⟩ := HX.out _ HBN.out
  have HT := hid ht
  clear ht
  go_wp2_with fail
  refine (r15path_any path _ _ rp).mono ?_
  by_cases hi : pathI path = 0
  case neg =>
    rintro e w2 ⟨rfl, hb2⟩
    have HBN2 := hid (HBN.out.trans (hb2.mono (by have := HBN.out.size; simpa using this)))
    have hne : (pathI path == 0) = false := by simpa using hi
    have hRI : readI t path = pathI path := by unfold readI; rw [HT.out]; rfl
    have HRI := hid hRI
    have HRV := hid (read_err (t := t) (p := path) (by rw [hRI]; exact hi))
    clear hB rt rp c0 c1 g1 hb2 hi HBN hRI
    have HBN := HBN2
    have hGZ := (HX.out _ HBN.out).2.2.2.2.2
    have hBz := (HX.out _ HBN.out).1
    have HG := hid hGZ
    have HBZ := hid hBz
    have k0 := cell_cells (i := 0) hGZ
    have k1 := cell_cells (i := 1) hGZ
    have k2 := cell_cells (i := 2) hGZ
    have k3 := cell_cells (i := 3) hGZ
    simp only [List.getElem?_toArray, List.getElem?_cons_zero, List.getElem?_cons_succ] at k0 k1 k2 k3
    have z0 := cells_frz (i := 0) hGZ
    have z1 := cells_frz (i := 1) hGZ
    have z2 := cells_frz (i := 2) hGZ
    have z3 := cells_frz (i := 3) hGZ
    clear hGZ hBz
    go_wp2_with fail
    obtain ⟨r0, r1, r2, r3, hK, hS⟩ := box4 HG.out (.int .i64 0) (.bool false) (.int .i64 0) (.slice none 0 0)
    have hBW := below_box4 HBZ.out (show w.heap.size ≤ w.heap.size + 1 by omega) (.int .i64 0) (.bool false) (.int .i64 0) (.slice none 0 0)
    exact bodyPost_ret (v := .tuple #[.agg #[.int .i64 0, .bool false, .int .i64 0, .slice none 0 0], .int .i64 (pathI path)]) (by simp [results, Tryz.results80, go_sem, r0, r1, r2, r3] <;> rfl) rfl ⟨_, by rw [HRI.out, HRV.out]; rfl, by rw [HRV.out]; exact SlA.nil, hBW⟩
  rw [hi]
  rintro e w2 ⟨rfl, hb2⟩
  have HBN2 := hid (HBN.out.trans (hb2.mono (by have := HBN.out.size; simpa using this)))
  have HI := hid hi
  obtain ⟨hk1, hk2⟩ := path_kind hi
  have hpl := (path_ok hi).1
  clear hB rt rp c0 c1 g1 hb2 hi HBN
  have HBN := HBN2
  clear HBN2
  obtain ⟨hB, rt, rp, c0, c1, g1⟩ := HX.out _ HBN.out
  obtain ⟨u, HU⟩ : ∃ u, Hid (tgetT t path = u) := ⟨_, rfl⟩
  have HUK : Hid (getK t path = u) := (tgetT_eq HT.out path).symm.trans HU.out
  have HGT : Hid (getT t path = u) := (get_law (right_ord _ _ HT.out) path).trans HUK.out
  have HUR : Hid (u.right 5 = true) := by unfold Hid; rw [← HUK.out]; exact getK_right HT.out _
  have hus : u.sz ≤ 4000 := by rw [← HUK.out]; exact Nat.le_trans (getK_szle t path) hN
  have hue := es_sz u
  go_wp2_with fail
  refine (r08get_any t path _ _ _ _ rt rp (by omega)).mono ?_
  rw [HGT.out]
  rintro e w3 ⟨ve3, vk3, rfl, hrd3, hb3⟩
  obtain ⟨Ar, nr, Br, mr, rfl, rfl⟩ := rda_shape hrd3
  have HBN2 := hid (HBN.out.trans (hb3.mono (by have := HBN.out.size; simpa using this)))
  have hs3 := HBN2.out.size
  simp only [World.size_alloc] at hs3
  have HR3 := hid hrd3
  obtain ⟨bq, offq, hA5, hbq, hcq⟩ := p3 (by rintro rfl; simp at hpl)
  subst hA5
  obtain ⟨cs, ⟨rfl, hkok⟩, _, hku⟩ := hcq (path.length - 1) _ (last_at hpl)
  have HY : Hid (∀ W, Below (w3.heap.size + 1) (w3.alloc (.cells #[.slice Ar u.es.length nr, .slice Br u.ks.length mr] 27)) W → (Below (w.heap.size + 2) ((w.alloc (.cells #[.slice A3 t.es.length n3, .slice A4 t.ks.length n4] 27)).alloc (.cells #[.int .i64 0, .bool false, .int .i64 0, .slice none 0 0] 86)) W ∧ u.rd W W.heap.size (.slice Ar u.es.length nr) (.slice Br u.ks.length mr) ∧ W.cell? ⟨w3.heap.size, 0, none⟩ = some (.slice Ar u.es.length nr) ∧ W.cell? ⟨w3.heap.size, 1, none⟩ = some (.slice Br u.ks.length mr) ∧ W.cell? ⟨bq, offq + (path.length - 1), none⟩ = some (.string (lastK path)))) := fun W hW => by
    have g := (hW.block w3.heap.size (by omega)).trans (heap_new rfl)
    have hB3 := ((Below.refl _ w3).alloc (Nat.le_refl _) _).trans (hW.mono (by omega))
    have hBX := HBN2.out.trans (hB3.mono (by omega))
    have hBW := (HX.out W hBX).1
    exact ⟨hBX, rda_rd HR3.out (fun b hb => hb.2) hB3, cell_cells (i := 0) g, cell_cells (i := 1) g, (hBW.cell (p := ⟨bq, offq + (path.length - 1), none⟩) hbq).trans (by simpa using hku 0 _ rfl)⟩
  clear hB rt rp c0 c1 g1 hb3 hrd3 HBN hku hcq p3
  obtain ⟨hBy, ru, y0, y1, y2⟩ := HY.out _ (Below.refl _ _)
  go_wp2_with fail
  refine (r15kind_any (lastK path) _ hkok).mono ?_
  rcases (show kindB (lastK path) = 1 ∨ kindB (lastK path) = 2 ∨ kindB (lastK path) = 3 ∨ kindB (lastK path) = 4 ∨ kindB (lastK path) = 5 by omega) with hk | hk | hk | hk | hk
  · have hue2 : u.es.length ≤ 140737488355328 := by omega
    by_cases hon : 0 < u.es.length
    · have HON : Hid (onB u = true) := by unfold Hid onB; rw [HUR.out]; simp [hon]
      have hon2 : decide ((0 : Int) < (u.es.length : Int)) = true := decide_eq_true (by omega)
      rw [hk]
      rintro e w4 ⟨rfl, hb4⟩
      have HBY := hid (hb4.mono (show w3.heap.size + 1 ≤ _ by simp))
      have hs4 := HBY.out.size
      simp only [World.size_alloc] at hs4
      have HV : Hid (∀ W, Below (w4.heap.size + 1) (w4.alloc (.cells #[.int .i64 1, .bool false, .int .i64 0, .slice none 0 0] 86)) W → (Below (w3.heap.size + 1) (w3.alloc (.cells #[.slice Ar u.es.length nr, .slice Br u.ks.length mr] 27)) W ∧ W.heap[w4.heap.size]? = some (.cells #[.int .i64 1, .bool false, .int .i64 0, .slice none 0 0] 86 (0, 0)))) := fun W hW =>
        ⟨HBY.out.trans ((((Below.refl _ w4).alloc (Nat.le_refl _) _).trans (hW.mono (by omega))).mono (by omega)), (hW.block w4.heap.size (by omega)).trans (heap_new rfl)⟩
      have HVW : Hid (readV t path = viewK 1 u ∧ readI t path = 0) := by
        have h0 : readI t path = 0 := by unfold readI; rw [HT.out, HI.out]; rfl
        exact ⟨by unfold readV; rw [if_pos h0, hk, HUK.out], h0⟩
      clear hBy ru y0 y1 y2 hb4 hk
      obtain ⟨hBv, gv⟩ := HV.out _ (Below.refl _ _)
      obtain ⟨hBy, ru, y0, y1, y2⟩ := HY.out _ hBv
      have v0 := cell_cells (i := 0) gv
      simp only [List.getElem?_toArray, List.getElem?_cons_zero] at v0
      go_upto_region 10 with (fail)
      obtain ⟨w5, hw5⟩ : ∃ z : World, z = w4.alloc (.cells #[.int .i64 1, .bool false, .int .i64 0, .slice none 0 0] 86) := ⟨_, rfl⟩
      have hb5 : Below (w4.alloc (.cells #[.int .i64 1, .bool false, .int .i64 0, .slice none 0 0] 86)).heap.size (w4.alloc (.cells #[.int .i64 1, .bool false, .int .i64 0, .slice none 0 0] 86)) w5 := by rw [hw5]; exact Below.refl _ _
      rw [← hw5]
      clear hw5
      have HBV := hid (hb5.mono (show w4.heap.size + 1 ≤ _ by simp))
      have hs5 := HBV.out.size
      simp only [World.size_alloc] at hs5
      clear hBv gv hBy ru y0 y1 y2 v0 hb5
      obtain ⟨hBv, gv⟩ := HV.out _ HBV.out
      obtain ⟨hBx, _, y0, y1, _⟩ := HY.out _ hBv
      obtain ⟨hBW, _, _, _, _, gz⟩ := HX.out _ hBx
      have HGV := hid gv
      have HGZ := hid gz
      have HBW := hid hBW
      have v0 := cell_cells (i := 0) gv
      have v1 := cell_cells (i := 1) gv
      have v2 := cell_cells (i := 2) gv
      have v3 := cell_cells (i := 3) gv
      simp only [List.getElem?_toArray, List.getElem?_cons_zero, List.getElem?_cons_succ] at v0 v1 v2 v3
      have u0 := cells_frz (i := 0) gv
      have u1 := cells_frz (i := 1) gv
      have u2 := cells_frz (i := 2) gv
      have u3 := cells_frz (i := 3) gv
      have k0 := cell_cells (i := 0) gz
      have k1 := cell_cells (i := 1) gz
      have k2 := cell_cells (i := 2) gz
      have k3 := cell_cells (i := 3) gz
      simp only [List.getElem?_toArray, List.getElem?_cons_zero, List.getElem?_cons_succ] at k0 k1 k2 k3
      have z0 := cells_frz (i := 0) gz
      have z1 := cells_frz (i := 1) gz
      have z2 := cells_frz (i := 2) gz
      have z3 := cells_frz (i := 3) gz
      have hne1 : w4.heap.size ≠ w.heap.size + 1 := by omega
      have hne2 : w.heap.size + 1 ≠ w4.heap.size := by omega
      clear hBv gv hBx hBW gz
      go_wp2_with fail
      have HG5 : ((w5).setCell ⟨w4.heap.size, 1, none⟩ (.bool true)).heap[w.heap.size + 1]? = some (.cells #[.int .i64 0, .bool false, .int .i64 0, .slice none 0 0] 86 (0, 0)) := (Below.heap_setCell _ _ _ _ (by simp; omega)).trans HGZ.out
      have hS5 : ((w5).setCell ⟨w4.heap.size, 1, none⟩ (.bool true)).heap.size = (w5).heap.size := by simp [World.setCell]
      obtain ⟨r0, r1, r2, r3, hK, hS⟩ := box4 HG5 (.int .i64 1) (.bool true) (.int .i64 0) (.slice none 0 0)
      have hBB := below_box4 (HBW.out.setCell (p := ⟨w4.heap.size, 1, none⟩) (by simp; omega) (.bool true)) (show w.heap.size ≤ w.heap.size + 1 by omega) (.int .i64 1) (.bool true) (.int .i64 0) (.slice none 0 0)
      exact bodyPost_ret (v := .tuple #[.agg #[.int .i64 1, .bool true, .int .i64 0, .slice none 0 0], .int .i64 0]) (by simp [results, Tryz.results80, go_sem, r0, r1, r2, r3] <;> rfl) rfl ⟨.slice none 0 0, by rw [HVW.out.1, HVW.out.2]; simp only [viewK]; rw [HON.out]; rfl, by rw [HVW.out.1]; exact SlA.nil, hBB⟩
    · have HON : Hid (onB u = false) := by unfold Hid onB; rw [HUR.out, decide_eq_false hon]; rfl
      have hon2 : decide ((0 : Int) < (u.es.length : Int)) = false := decide_eq_false (by omega)
      rw [hk]
      rintro e w4 ⟨rfl, hb4⟩
      have HBY := hid (hb4.mono (show w3.heap.size + 1 ≤ _ by simp))
      have hs4 := HBY.out.size
      simp only [World.size_alloc] at hs4
      have HV : Hid (∀ W, Below (w4.heap.size + 1) (w4.alloc (.cells #[.int .i64 1, .bool false, .int .i64 0, .slice none 0 0] 86)) W → (Below (w3.heap.size + 1) (w3.alloc (.cells #[.slice Ar u.es.length nr, .slice Br u.ks.length mr] 27)) W ∧ W.heap[w4.heap.size]? = some (.cells #[.int .i64 1, .bool false, .int .i64 0, .slice none 0 0] 86 (0, 0)))) := fun W hW =>
        ⟨HBY.out.trans ((((Below.refl _ w4).alloc (Nat.le_refl _) _).trans (hW.mono (by omega))).mono (by omega)), (hW.block w4.heap.size (by omega)).trans (heap_new rfl)⟩
      have HVW : Hid (readV t path = viewK 1 u ∧ readI t path = 0) := by
        have h0 : readI t path = 0 := by unfold readI; rw [HT.out, HI.out]; rfl
        exact ⟨by unfold readV; rw [if_pos h0, hk, HUK.out], h0⟩
      clear hBy ru y0 y1 y2 hb4 hk
      obtain ⟨hBv, gv⟩ := HV.out _ (Below.refl _ _)
      obtain ⟨hBy, ru, y0, y1, y2⟩ := HY.out _ hBv
      have v0 := cell_cells (i := 0) gv
      simp only [List.getElem?_toArray, List.getElem?_cons_zero] at v0
      go_upto_region 10 with (fail)
      obtain ⟨w5, hw5⟩ : ∃ z : World, z = w4.alloc (.cells #[.int .i64 1, .bool false, .int .i64 0, .slice none 0 0] 86) := ⟨_, rfl⟩
      have hb5 : Below (w4.alloc (.cells #[.int .i64 1, .bool false, .int .i64 0, .slice none 0 0] 86)).heap.size (w4.alloc (.cells #[.int .i64 1, .bool false, .int .i64 0, .slice none 0 0] 86)) w5 := by rw [hw5]; exact Below.refl _ _
      rw [← hw5]
      clear hw5
      have HBV := hid (hb5.mono (show w4.heap.size + 1 ≤ _ by simp))
      have hs5 := HBV.out.size
      simp only [World.size_alloc] at hs5
      clear hBv gv hBy ru y0 y1 y2 v0 hb5
      obtain ⟨hBv, gv⟩ := HV.out _ HBV.out
      obtain ⟨hBx, _, y0, y1, _⟩ := HY.out _ hBv
      obtain ⟨hBW, _, _, _, _, gz⟩ := HX.out _ hBx
      have HGV := hid gv
      have HGZ := hid gz
      have HBW := hid hBW
      have v0 := cell_cells (i := 0) gv
      have v1 := cell_cells (i := 1) gv
      have v2 := cell_cells (i := 2) gv
      have v3 := cell_cells (i := 3) gv
      simp only [List.getElem?_toArray, List.getElem?_cons_zero, List.getElem?_cons_succ] at v0 v1 v2 v3
      have u0 := cells_frz (i := 0) gv
      have u1 := cells_frz (i := 1) gv
      have u2 := cells_frz (i := 2) gv
      have u3 := cells_frz (i := 3) gv
      have k0 := cell_cells (i := 0) gz
      have k1 := cell_cells (i := 1) gz
      have k2 := cell_cells (i := 2) gz
      have k3 := cell_cells (i := 3) gz
      simp only [List.getElem?_toArray, List.getElem?_cons_zero, List.getElem?_cons_succ] at k0 k1 k2 k3
      have z0 := cells_frz (i := 0) gz
      have z1 := cells_frz (i := 1) gz
      have z2 := cells_frz (i := 2) gz
      have z3 := cells_frz (i := 3) gz
      have hne1 : w4.heap.size ≠ w.heap.size + 1 := by omega
      have hne2 : w.heap.size + 1 ≠ w4.heap.size := by omega
      clear hBv gv hBx hBW gz
      go_wp2_with fail
      have HG5 : ((w5).setCell ⟨w4.heap.size, 1, none⟩ (.bool false)).heap[w.heap.size + 1]? = some (.cells #[.int .i64 0, .bool false, .int .i64 0, .slice none 0 0] 86 (0, 0)) := (Below.heap_setCell _ _ _ _ (by simp; omega)).trans HGZ.out
      have hS5 : ((w5).setCell ⟨w4.heap.size, 1, none⟩ (.bool false)).heap.size = (w5).heap.size := by simp [World.setCell]
      obtain ⟨r0, r1, r2, r3, hK, hS⟩ := box4 HG5 (.int .i64 1) (.bool false) (.int .i64 0) (.slice none 0 0)
      have hBB := below_box4 (HBW.out.setCell (p := ⟨w4.heap.size, 1, none⟩) (by simp; omega) (.bool false)) (show w.heap.size ≤ w.heap.size + 1 by omega) (.int .i64 1) (.bool false) (.int .i64 0) (.slice none 0 0)
      exact bodyPost_ret (v := .tuple #[.agg #[.int .i64 1, .bool false, .int .i64 0, .slice none 0 0], .int .i64 0]) (by simp [results, Tryz.results80, go_sem, r0, r1, r2, r3] <;> rfl) rfl ⟨.slice none 0 0, by rw [HVW.out.1, HVW.out.2]; simp only [viewK]; rw [HON.out]; rfl, by rw [HVW.out.1]; exact SlA.nil, hBB⟩
  · have HEL : Hid (elL u.ks = elemsOf u) := by unfold Hid elemsOf; rw [HUR.out]; rfl
    rw [hk]
    rintro e w4 ⟨rfl, hb4⟩
    have HBY := hid (hb4.mono (show w3.heap.size + 1 ≤ _ by simp))
    have hs4 := HBY.out.size
    simp only [World.size_alloc] at hs4
    have HV : Hid (∀ W, Below (w4.heap.size + 1) (w4.alloc (.cells #[.int .i64 2, .bool false, .int .i64 0, .slice none 0 0] 86)) W → (Below (w3.heap.size + 1) (w3.alloc (.cells #[.slice Ar u.es.length nr, .slice Br u.ks.length mr] 27)) W ∧ W.heap[w4.heap.size]? = some (.cells #[.int .i64 2, .bool false, .int .i64 0, .slice none 0 0] 86 (0, 0)))) := fun W hW =>
      ⟨HBY.out.trans ((((Below.refl _ w4).alloc (Nat.le_refl _) _).trans (hW.mono (by omega))).mono (by omega)), (hW.block w4.heap.size (by omega)).trans (heap_new rfl)⟩
    have HVW : Hid (readV t path = viewK 2 u ∧ readI t path = 0) := by
      have h0 : readI t path = 0 := by unfold readI; rw [HT.out, HI.out]; rfl
      exact ⟨by unfold readV; rw [if_pos h0, hk, HUK.out], h0⟩
    clear hBy ru y0 y1 y2 hb4 hk
    obtain ⟨hBv, gv⟩ := HV.out _ (Below.refl _ _)
    obtain ⟨hBy, ru, y0, y1, y2⟩ := HY.out _ hBv
    have v0 := cell_cells (i := 0) gv
    simp only [List.getElem?_toArray, List.getElem?_cons_zero] at v0
    go_wp2_with fail
    refine (r10elems_any u _ _ _ ru (by omega)).mono ?_
    rw [HEL.out]
    rintro e w5 ⟨vL, rfl, ho5, hb5⟩
    obtain ⟨Av, nv, rfl⟩ := ho5.shape
    have HSL := hid (OwnP.sla ho5 (by unfold Big; have := elemsOf_len u; omega))
    have hbs5 : w.heap.size + 2 ≤ w5.heap.size := by have := hb5.size; simp at this; omega
    simp only [World.size_alloc] at HSL
    clear ho5
    have HBV := hid (hb5.mono (show w4.heap.size + 1 ≤ _ by simp))
    have hs5 := HBV.out.size
    simp only [World.size_alloc] at hs5
    clear hBv gv hBy ru y0 y1 y2 v0 hb5
    obtain ⟨hBv, gv⟩ := HV.out _ HBV.out
    obtain ⟨hBx, _, _, _, _⟩ := HY.out _ hBv
    obtain ⟨hBW, _, _, _, _, gz⟩ := HX.out _ hBx
    have HGV := hid gv
    have HGZ := hid gz
    have HBW := hid hBW
    have v0 := cell_cells (i := 0) gv
    have v1 := cell_cells (i := 1) gv
    have v2 := cell_cells (i := 2) gv
    have v3 := cell_cells (i := 3) gv
    simp only [List.getElem?_toArray, List.getElem?_cons_zero, List.getElem?_cons_succ] at v0 v1 v2 v3
    have u0 := cells_frz (i := 0) gv
    have u1 := cells_frz (i := 1) gv
    have u2 := cells_frz (i := 2) gv
    have u3 := cells_frz (i := 3) gv
    have k0 := cell_cells (i := 0) gz
    have k1 := cell_cells (i := 1) gz
    have k2 := cell_cells (i := 2) gz
    have k3 := cell_cells (i := 3) gz
    simp only [List.getElem?_toArray, List.getElem?_cons_zero, List.getElem?_cons_succ] at k0 k1 k2 k3
    have z0 := cells_frz (i := 0) gz
    have z1 := cells_frz (i := 1) gz
    have z2 := cells_frz (i := 2) gz
    have z3 := cells_frz (i := 3) gz
    have hne1 : w4.heap.size ≠ w.heap.size + 1 := by omega
    have hne2 : w.heap.size + 1 ≠ w4.heap.size := by omega
    clear hBv gv hBx hBW gz
    go_wp2_with fail
    have HG5 : ((w5).setCell ⟨w4.heap.size, 3, none⟩ (.slice Av (elemsOf u).length nv)).heap[w.heap.size + 1]? = some (.cells #[.int .i64 0, .bool false, .int .i64 0, .slice none 0 0] 86 (0, 0)) := (Below.heap_setCell _ _ _ _ (by simp; omega)).trans HGZ.out
    have hS5 : ((w5).setCell ⟨w4.heap.size, 3, none⟩ (.slice Av (elemsOf u).length nv)).heap.size = (w5).heap.size := by simp [World.setCell]
    obtain ⟨r0, r1, r2, r3, hK, hS⟩ := box4 HG5 (.int .i64 2) (.bool false) (.int .i64 0) (.slice Av (elemsOf u).length nv)
    have hBB := below_box4 (HBW.out.setCell (p := ⟨w4.heap.size, 3, none⟩) (by simp; omega) (.slice Av (elemsOf u).length nv)) (show w.heap.size ≤ w.heap.size + 1 by omega) (.int .i64 2) (.bool false) (.int .i64 0) (.slice Av (elemsOf u).length nv)
    exact bodyPost_ret (v := .tuple #[.agg #[.int .i64 2, .bool false, .int .i64 0, .slice Av (elemsOf u).length nv], .int .i64 0]) (by simp [results, Tryz.results80, go_sem, r0, r1, r2, r3] <;> rfl) rfl ⟨_, by rw [HVW.out.1, HVW.out.2]; rfl, by
      rw [HVW.out.1]
      exact HSL.out.up (fun b hb => (hK b (by have := hb.1; omega)).trans (Below.heap_setCell _ _ _ _ (by have := hb.1; simp; omega))) (fun b hb => ⟨by have := hb.1; omega, by rw [hS, hS5]; exact hb.2.1⟩) (fun _ _ _ h => h), hBB⟩
  · have HSM : Hid (sumE u.es = valT u) := by unfold Hid valT; rw [HUR.out]; rfl
    rw [hk]
    rintro e w4 ⟨rfl, hb4⟩
    have HBY := hid (hb4.mono (show w3.heap.size + 1 ≤ _ by simp))
    have hs4 := HBY.out.size
    simp only [World.size_alloc] at hs4
    have HV : Hid (∀ W, Below (w4.heap.size + 1) (w4.alloc (.cells #[.int .i64 3, .bool false, .int .i64 0, .slice none 0 0] 86)) W → (Below (w3.heap.size + 1) (w3.alloc (.cells #[.slice Ar u.es.length nr, .slice Br u.ks.length mr] 27)) W ∧ W.heap[w4.heap.size]? = some (.cells #[.int .i64 3, .bool false, .int .i64 0, .slice none 0 0] 86 (0, 0)))) := fun W hW =>
      ⟨HBY.out.trans ((((Below.refl _ w4).alloc (Nat.le_refl _) _).trans (hW.mono (by omega))).mono (by omega)), (hW.block w4.heap.size (by omega)).trans (heap_new rfl)⟩
    have HVW : Hid (readV t path = viewK 3 u ∧ readI t path = 0) := by
      have h0 : readI t path = 0 := by unfold readI; rw [HT.out, HI.out]; rfl
      exact ⟨by unfold readV; rw [if_pos h0, hk, HUK.out], h0⟩
    clear hBy ru y0 y1 y2 hb4 hk
    obtain ⟨hBv, gv⟩ := HV.out _ (Below.refl _ _)
    obtain ⟨hBy, ru, y0, y1, y2⟩ := HY.out _ hBv
    have v0 := cell_cells (i := 0) gv
    simp only [List.getElem?_toArray, List.getElem?_cons_zero] at v0
    go_wp2_with fail
    refine (r10sum_any u _ _ _ ru).mono ?_
    rw [HSM.out]
    rintro e w5 ⟨rfl, hb5⟩
    have HBV := hid (hb5.mono (show w4.heap.size + 1 ≤ _ by simp))
    have hs5 := HBV.out.size
    simp only [World.size_alloc] at hs5
    clear hBv gv hBy ru y0 y1 y2 v0 hb5
    obtain ⟨hBv, gv⟩ := HV.out _ HBV.out
    obtain ⟨hBx, _, _, _, _⟩ := HY.out _ hBv
    obtain ⟨hBW, _, _, _, _, gz⟩ := HX.out _ hBx
    have HGV := hid gv
    have HGZ := hid gz
    have HBW := hid hBW
    have v0 := cell_cells (i := 0) gv
    have v1 := cell_cells (i := 1) gv
    have v2 := cell_cells (i := 2) gv
    have v3 := cell_cells (i := 3) gv
    simp only [List.getElem?_toArray, List.getElem?_cons_zero, List.getElem?_cons_succ] at v0 v1 v2 v3
    have u0 := cells_frz (i := 0) gv
    have u1 := cells_frz (i := 1) gv
    have u2 := cells_frz (i := 2) gv
    have u3 := cells_frz (i := 3) gv
    have k0 := cell_cells (i := 0) gz
    have k1 := cell_cells (i := 1) gz
    have k2 := cell_cells (i := 2) gz
    have k3 := cell_cells (i := 3) gz
    simp only [List.getElem?_toArray, List.getElem?_cons_zero, List.getElem?_cons_succ] at k0 k1 k2 k3
    have z0 := cells_frz (i := 0) gz
    have z1 := cells_frz (i := 1) gz
    have z2 := cells_frz (i := 2) gz
    have z3 := cells_frz (i := 3) gz
    have hne1 : w4.heap.size ≠ w.heap.size + 1 := by omega
    have hne2 : w.heap.size + 1 ≠ w4.heap.size := by omega
    clear hBv gv hBx hBW gz
    go_wp2_with fail
    have HG5 : ((w5).setCell ⟨w4.heap.size, 2, none⟩ (.int .i64 (valT u))).heap[w.heap.size + 1]? = some (.cells #[.int .i64 0, .bool false, .int .i64 0, .slice none 0 0] 86 (0, 0)) := (Below.heap_setCell _ _ _ _ (by simp; omega)).trans HGZ.out
    have hS5 : ((w5).setCell ⟨w4.heap.size, 2, none⟩ (.int .i64 (valT u))).heap.size = (w5).heap.size := by simp [World.setCell]
    obtain ⟨r0, r1, r2, r3, hK, hS⟩ := box4 HG5 (.int .i64 3) (.bool false) (.int .i64 (valT u)) (.slice none 0 0)
    have hBB := below_box4 (HBW.out.setCell (p := ⟨w4.heap.size, 2, none⟩) (by simp; omega) (.int .i64 (valT u))) (show w.heap.size ≤ w.heap.size + 1 by omega) (.int .i64 3) (.bool false) (.int .i64 (valT u)) (.slice none 0 0)
    exact bodyPost_ret (v := .tuple #[.agg #[.int .i64 3, .bool false, .int .i64 (valT u), .slice none 0 0], .int .i64 0]) (by simp [results, Tryz.results80, go_sem, r0, r1, r2, r3] <;> rfl) rfl ⟨_, by rw [HVW.out.1, HVW.out.2]; rfl, by rw [HVW.out.1]; exact SlA.nil, hBB⟩
  · have HTX : Hid (sdL (u.es.map (·.s)) = valsOf u) := (valsR HUR.out).symm
    rw [hk]
    rintro e w4 ⟨rfl, hb4⟩
    have HBY := hid (hb4.mono (show w3.heap.size + 1 ≤ _ by simp))
    have hs4 := HBY.out.size
    simp only [World.size_alloc] at hs4
    have HV : Hid (∀ W, Below (w4.heap.size + 1) (w4.alloc (.cells #[.int .i64 4, .bool false, .int .i64 0, .slice none 0 0] 86)) W → (Below (w3.heap.size + 1) (w3.alloc (.cells #[.slice Ar u.es.length nr, .slice Br u.ks.length mr] 27)) W ∧ W.heap[w4.heap.size]? = some (.cells #[.int .i64 4, .bool false, .int .i64 0, .slice none 0 0] 86 (0, 0)))) := fun W hW =>
      ⟨HBY.out.trans ((((Below.refl _ w4).alloc (Nat.le_refl _) _).trans (hW.mono (by omega))).mono (by omega)), (hW.block w4.heap.size (by omega)).trans (heap_new rfl)⟩
    have HVW : Hid (readV t path = viewK 4 u ∧ readI t path = 0) := by
      have h0 : readI t path = 0 := by unfold readI; rw [HT.out, HI.out]; rfl
      exact ⟨by unfold readV; rw [if_pos h0, hk, HUK.out], h0⟩
    clear hBy ru y0 y1 y2 hb4 hk
    obtain ⟨hBv, gv⟩ := HV.out _ (Below.refl _ _)
    obtain ⟨hBy, ru, y0, y1, y2⟩ := HY.out _ hBv
    have v0 := cell_cells (i := 0) gv
    simp only [List.getElem?_toArray, List.getElem?_cons_zero] at v0
    go_wp2_with fail
    refine (r10texts_any u _ _ _ ru (by omega)).mono ?_
    rw [HTX.out]
    rintro e w5 ⟨vL, rfl, ho5, hb5⟩
    obtain ⟨Av, nv, rfl⟩ := ho5.shape
    have HSL := hid (OwnP.sla ho5 (by unfold Big; have := vals_len u; omega))
    have hbs5 : w.heap.size + 2 ≤ w5.heap.size := by have := hb5.size; simp at this; omega
    simp only [World.size_alloc] at HSL
    clear ho5
    have HBV := hid (hb5.mono (show w4.heap.size + 1 ≤ _ by simp))
    have hs5 := HBV.out.size
    simp only [World.size_alloc] at hs5
    clear hBv gv hBy ru y0 y1 y2 v0 hb5
    obtain ⟨hBv, gv⟩ := HV.out _ HBV.out
    obtain ⟨hBx, _, _, _, _⟩ := HY.out _ hBv
    obtain ⟨hBW, _, _, _, _, gz⟩ := HX.out _ hBx
    have HGV := hid gv
    have HGZ := hid gz
    have HBW := hid hBW
    have v0 := cell_cells (i := 0) gv
    have v1 := cell_cells (i := 1) gv
    have v2 := cell_cells (i := 2) gv
    have v3 := cell_cells (i := 3) gv
    simp only [List.getElem?_toArray, List.getElem?_cons_zero, List.getElem?_cons_succ] at v0 v1 v2 v3
    have u0 := cells_frz (i := 0) gv
    have u1 := cells_frz (i := 1) gv
    have u2 := cells_frz (i := 2) gv
    have u3 := cells_frz (i := 3) gv
    have k0 := cell_cells (i := 0) gz
    have k1 := cell_cells (i := 1) gz
    have k2 := cell_cells (i := 2) gz
    have k3 := cell_cells (i := 3) gz
    simp only [List.getElem?_toArray, List.getElem?_cons_zero, List.getElem?_cons_succ] at k0 k1 k2 k3
    have z0 := cells_frz (i := 0) gz
    have z1 := cells_frz (i := 1) gz
    have z2 := cells_frz (i := 2) gz
    have z3 := cells_frz (i := 3) gz
    have hne1 : w4.heap.size ≠ w.heap.size + 1 := by omega
    have hne2 : w.heap.size + 1 ≠ w4.heap.size := by omega
    clear hBv gv hBx hBW gz
    go_wp2_with fail
    have HG5 : ((w5).setCell ⟨w4.heap.size, 3, none⟩ (.slice Av (valsOf u).length nv)).heap[w.heap.size + 1]? = some (.cells #[.int .i64 0, .bool false, .int .i64 0, .slice none 0 0] 86 (0, 0)) := (Below.heap_setCell _ _ _ _ (by simp; omega)).trans HGZ.out
    have hS5 : ((w5).setCell ⟨w4.heap.size, 3, none⟩ (.slice Av (valsOf u).length nv)).heap.size = (w5).heap.size := by simp [World.setCell]
    obtain ⟨r0, r1, r2, r3, hK, hS⟩ := box4 HG5 (.int .i64 4) (.bool false) (.int .i64 0) (.slice Av (valsOf u).length nv)
    have hBB := below_box4 (HBW.out.setCell (p := ⟨w4.heap.size, 3, none⟩) (by simp; omega) (.slice Av (valsOf u).length nv)) (show w.heap.size ≤ w.heap.size + 1 by omega) (.int .i64 4) (.bool false) (.int .i64 0) (.slice Av (valsOf u).length nv)
    exact bodyPost_ret (v := .tuple #[.agg #[.int .i64 4, .bool false, .int .i64 0, .slice Av (valsOf u).length nv], .int .i64 0]) (by simp [results, Tryz.results80, go_sem, r0, r1, r2, r3] <;> rfl) rfl ⟨_, by rw [HVW.out.1, HVW.out.2]; rfl, by
      rw [HVW.out.1]
      exact HSL.out.up (fun b hb => (hK b (by have := hb.1; omega)).trans (Below.heap_setCell _ _ _ _ (by have := hb.1; simp; omega))) (fun b hb => ⟨by have := hb.1; omega, by rw [hS, hS5]; exact hb.2.1⟩) (fun _ _ _ h => h), hBB⟩
  · have HKS : Hid (u.ks.map (·.1) = keysOf u) := by unfold Hid keysOf; rw [HUR.out]; rfl
    rw [hk]
    rintro e w4 ⟨rfl, hb4⟩
    have HBY := hid (hb4.mono (show w3.heap.size + 1 ≤ _ by simp))
    have hs4 := HBY.out.size
    simp only [World.size_alloc] at hs4
    have HV : Hid (∀ W, Below (w4.heap.size + 1) (w4.alloc (.cells #[.int .i64 5, .bool false, .int .i64 0, .slice none 0 0] 86)) W → (Below (w3.heap.size + 1) (w3.alloc (.cells #[.slice Ar u.es.length nr, .slice Br u.ks.length mr] 27)) W ∧ W.heap[w4.heap.size]? = some (.cells #[.int .i64 5, .bool false, .int .i64 0, .slice none 0 0] 86 (0, 0)))) := fun W hW =>
      ⟨HBY.out.trans ((((Below.refl _ w4).alloc (Nat.le_refl _) _).trans (hW.mono (by omega))).mono (by omega)), (hW.block w4.heap.size (by omega)).trans (heap_new rfl)⟩
    have HVW : Hid (readV t path = viewK 5 u ∧ readI t path = 0) := by
      have h0 : readI t path = 0 := by unfold readI; rw [HT.out, HI.out]; rfl
      exact ⟨by unfold readV; rw [if_pos h0, hk, HUK.out], h0⟩
    clear hBy ru y0 y1 y2 hb4 hk
    obtain ⟨hBv, gv⟩ := HV.out _ (Below.refl _ _)
    obtain ⟨hBy, ru, y0, y1, y2⟩ := HY.out _ hBv
    have v0 := cell_cells (i := 0) gv
    simp only [List.getElem?_toArray, List.getElem?_cons_zero] at v0
    go_wp2_with fail
    refine (r10keys_any u _ _ _ ru (by omega)).mono ?_
    rw [HKS.out]
    rintro e w5 ⟨vL, rfl, ho5, hb5⟩
    obtain ⟨Av, nv, rfl⟩ := ho5.shape
    have HSL := hid (OwnP.sla ho5 (by unfold Big; have := keys_len u; omega))
    have hbs5 : w.heap.size + 2 ≤ w5.heap.size := by have := hb5.size; simp at this; omega
    simp only [World.size_alloc] at HSL
    clear ho5
    have HBV := hid (hb5.mono (show w4.heap.size + 1 ≤ _ by simp))
    have hs5 := HBV.out.size
    simp only [World.size_alloc] at hs5
    clear hBv gv hBy ru y0 y1 y2 v0 hb5
    obtain ⟨hBv, gv⟩ := HV.out _ HBV.out
    obtain ⟨hBx, _, _, _, _⟩ := HY.out _ hBv
    obtain ⟨hBW, _, _, _, _, gz⟩ := HX.out _ hBx
    have HGV := hid gv
    have HGZ := hid gz
    have HBW := hid hBW
    have v0 := cell_cells (i := 0) gv
    have v1 := cell_cells (i := 1) gv
    have v2 := cell_cells (i := 2) gv
    have v3 := cell_cells (i := 3) gv
    simp only [List.getElem?_toArray, List.getElem?_cons_zero, List.getElem?_cons_succ] at v0 v1 v2 v3
    have u0 := cells_frz (i := 0) gv
    have u1 := cells_frz (i := 1) gv
    have u2 := cells_frz (i := 2) gv
    have u3 := cells_frz (i := 3) gv
    have k0 := cell_cells (i := 0) gz
    have k1 := cell_cells (i := 1) gz
    have k2 := cell_cells (i := 2) gz
    have k3 := cell_cells (i := 3) gz
    simp only [List.getElem?_toArray, List.getElem?_cons_zero, List.getElem?_cons_succ] at k0 k1 k2 k3
    have z0 := cells_frz (i := 0) gz
    have z1 := cells_frz (i := 1) gz
    have z2 := cells_frz (i := 2) gz
    have z3 := cells_frz (i := 3) gz
    have hne1 : w4.heap.size ≠ w.heap.size + 1 := by omega
    have hne2 : w.heap.size + 1 ≠ w4.heap.size := by omega
    clear hBv gv hBx hBW gz
    go_wp2_with fail
    have HG5 : ((w5).setCell ⟨w4.heap.size, 3, none⟩ (.slice Av (keysOf u).length nv)).heap[w.heap.size + 1]? = some (.cells #[.int .i64 0, .bool false, .int .i64 0, .slice none 0 0] 86 (0, 0)) := (Below.heap_setCell _ _ _ _ (by simp; omega)).trans HGZ.out
    have hS5 : ((w5).setCell ⟨w4.heap.size, 3, none⟩ (.slice Av (keysOf u).length nv)).heap.size = (w5).heap.size := by simp [World.setCell]
    obtain ⟨r0, r1, r2, r3, hK, hS⟩ := box4 HG5 (.int .i64 5) (.bool false) (.int .i64 0) (.slice Av (keysOf u).length nv)
    have hBB := below_box4 (HBW.out.setCell (p := ⟨w4.heap.size, 3, none⟩) (by simp; omega) (.slice Av (keysOf u).length nv)) (show w.heap.size ≤ w.heap.size + 1 by omega) (.int .i64 5) (.bool false) (.int .i64 0) (.slice Av (keysOf u).length nv)
    exact bodyPost_ret (v := .tuple #[.agg #[.int .i64 5, .bool false, .int .i64 0, .slice Av (keysOf u).length nv], .int .i64 0]) (by simp [results, Tryz.results80, go_sem, r0, r1, r2, r3] <;> rfl) rfl ⟨_, by rw [HVW.out.1, HVW.out.2]; rfl, by
      rw [HVW.out.1]
      exact HSL.out.up (fun b hb => (hK b (by have := hb.1; omega)).trans (Below.heap_setCell _ _ _ _ (by have := hb.1; simp; omega))) (fun b hb => ⟨by have := hb.1; omega, by rw [hS, hS5]; exact hb.2.1⟩) (fun _ _ _ h => h), hBB⟩
end Go.Proofs.YtmphgnjodangcaaGreat

namespace Go.Proofs.YtmphgnjodangcaaGreat
open Go.RowKit
set_option maxRecDepth 100000

theorem r10own_any (t : Tr) (ve vk : Value) (w : World) (h : t.rd w w.heap.size ve vk) (hN : t.sz ≤ 90000) (hR : ∀ d ∈ ownD t, 0 ≤ d.n ∧ d.n ≤ 1099511627778) :
    Calls Tryz.prog 209 #[.agg #[ve, vk]] w (RetO w 47 3 (fun _ => SpE) (ctxOf (ownD t))) := by
  obtain ⟨es, ks⟩ := t
  have hsl := (rd_iff.1 h).1
  have hz : es.length ≤ 90000 := by rw [Tr.sz] at hN; omega
  have hD : (Tr.mk es []).dots = ownD (.mk es ks) := by unfold ownD; rw [Tr.dots, Tr.dotsL, List.append_nil]; rfl
  obtain ⟨A3, n3, A4, n4, rfl, rfl⟩ := rd_shape h
  have HE : Hid (∀ w', Below w.heap.size w w' → (Tr.mk es []).rd w' w'.heap.size (.slice A3 es.length n3) (.slice none 0 0)) := fun w' hb => rd_iff.2 ⟨hsl.imp hb hb.size fun _ _ _ h => h, SlP.nil⟩
  have HRR : Hid (∀ d ∈ (Tr.mk es []).dots, 0 ≤ d.n ∧ d.n ≤ 1099511627778) := by unfold Hid; rw [hD]; exact hR
  have hb0 : Below w.heap.size w (w.alloc (.cells #[.slice A3 (Tr.mk es ks).es.length n3, .slice A4 (Tr.mk es ks).ks.length n4] 27)) := (Below.refl _ w).alloc (Nat.le_refl _) _
  clear h hsl
  go_enter Tryz.func209, Tryz.ntmps209
  go_wp2_with fail
  refine (r08dots_any (.mk es []) _ _ _ (HE.out _ hb0) (by rw [Tr.sz, Tr.szL]; omega) HRR.out).mono ?_
  rw [hD]
  rintro e w1 ⟨v1, rfl, ho1, hb1⟩
  go_wp2_with fail
  go_ret
  exact ⟨_, rfl, ho1.mono (by simp), hb0.trans (hb1.mono (by simp))⟩
end Go.Proofs.YtmphgnjodangcaaGreat

namespace Go.Proofs.YtmphgnjodangcaaGreat
open Go.RowKit
set_option maxRecDepth 100000

theorem ctx_add {d : Dt} {l : List Dt} (hd : d.right = true) (hl : ∀ x ∈ l, x.right = true) : ctxOf (d :: l) = ctxBy (ctxOf l) [⟨d.dc, d.n, d.n⟩] 0 := by
  rw [ctxOf_whole, ctxBy_whole]
  refine whole_eq fun i hi => ?_
  rw [part_ctxOf l hi]
  have hb := (right_bd hd).2
  have hda : ∀ x ∈ d :: l, x.right = true := fun x hx => by
    rcases List.mem_cons.1 hx with rfl | hx
    · exact hd
    · exact hl x hx
  obtain ⟨a1, a2⟩ := ofL_right (nums_ok hda (i : Int))
  obtain ⟨b1, b2⟩ := ofL_right (nums_ok hl (i : Int))
  have hp : ∀ r ∈ partL [(⟨d.dc, d.n, d.n⟩ : Sp)] (i : Int), runOk r := fun r hr => by
    unfold partL at hr
    obtain ⟨s, hs, rfl⟩ := List.mem_map.1 hr
    have := (List.mem_filter.1 hs).1
    simp at this; subst this
    exact ⟨hb.1, Int.le_refl _, hb.2⟩
  obtain ⟨c1, c2⟩ := byL_right (a := ofL (numsL l (i : Int))) (b := partL [(⟨d.dc, d.n, d.n⟩ : Sp)] (i : Int)) 0 (runs_ok _ none b1) hp
  refine runs_eq _ _ none none a1 c1 fun n => ?_
  rw [c2, Bool.eq_iff_iff, a2]
  have hn : (hasL (ofL (numsL l (i : Int))) n = true) ↔ n ∈ numsL l (i : Int) := b2 n
  simp only [inn, if_neg (show ¬ ((0 : Int) = 2) by decide), if_neg (show ¬ ((0 : Int) = 1) by decide), Bool.or_eq_true, hn]
  by_cases e : d.dc = (i : Int)
  · have h1 : numsL (d :: l) (i : Int) = d.n :: numsL l (i : Int) := by simp [numsL, e]
    have h2 : partL [(⟨d.dc, d.n, d.n⟩ : Sp)] (i : Int) = [(d.n, d.n)] := by simp [partL, e]
    rw [h1, h2, List.mem_cons]
    simp [hasL, inR]
    constructor
    · rintro (h | h)
      · exact .inr ⟨by omega, by omega⟩
      · exact .inl h
    · rintro (h | ⟨h, k⟩)
      · exact .inr h
      · exact .inl (by omega)
  · have h1 : numsL (d :: l) (i : Int) = numsL l (i : Int) := by simp [numsL, e]
    have h2 : partL [(⟨d.dc, d.n, d.n⟩ : Sp)] (i : Int) = [] := by simp [partL, e]
    rw [h1, h2]; simp [hasL]
end Go.Proofs.YtmphgnjodangcaaGreat
