/- What the laws need, part 9: op.leaf: what changes at a path's end. Condition: not too big. tributarylaw09.small and right, at one and at two. No condition. Lists of what is known, in a block. No condition. tributaryref10.Own. No condition but that there are not too many entries. Plain law: the context of one dot more. No condition. What is read at once behind a change: plain. What is read hangs on no name of a change: plain. A go: its ground, its changes, and what they have made of it: plain. op.Read, op.Same. Condition: not too big. op.Same, tributaryref15.Same, begins, undoes; slices.Equal at texts. No condition. tributaryref15.stands, Visible, Short. Condition: not too many. tributaryref15.Read. Condition: not too big. tributaryref15.Spec. Condition: not too many; a right path. -/
import Derived.Test.YtlapdmgjfdelnaaGreatRs8
namespace Go.Proofs.YtlapdmgjfdelnaaGreat
open Go.RowKit
set_option maxRecDepth 100000

/-- A result box of its own, filled with what a call handed back. -/
theorem box_fin {w w1 : World} {N g : Nat} {T : Tr} {C : List Sp} {x y z a b c : Value} {e : TypeId} (hG : w1.heap[g]? = some (.cells #[x, y, z] e (0, 0))) (hB : Below w.heap.size w w1) (hg : w.heap.size ≤ g) (hN : g < N) (hrd : T.rda w1 (fun b => N ≤ b ∧ b < w1.heap.size) a b) (hsl : SlA w1 (fun b => N ≤ b ∧ b < w1.heap.size) 3 SpE c C) :
    (((w1.setCell ⟨g, 0, none⟩ a).setCell ⟨g, 1, none⟩ b).setCell ⟨g, 2, none⟩ c).cell? ⟨g, 0, none⟩ = some a ∧ (((w1.setCell ⟨g, 0, none⟩ a).setCell ⟨g, 1, none⟩ b).setCell ⟨g, 2, none⟩ c).cell? ⟨g, 1, none⟩ = some b ∧ (((w1.setCell ⟨g, 0, none⟩ a).setCell ⟨g, 1, none⟩ b).setCell ⟨g, 2, none⟩ c).cell? ⟨g, 2, none⟩ = some c ∧
    T.rda (((w1.setCell ⟨g, 0, none⟩ a).setCell ⟨g, 1, none⟩ b).setCell ⟨g, 2, none⟩ c) (fun q => w.heap.size ≤ q ∧ q < (((w1.setCell ⟨g, 0, none⟩ a).setCell ⟨g, 1, none⟩ b).setCell ⟨g, 2, none⟩ c).heap.size) a b ∧
    SlA (((w1.setCell ⟨g, 0, none⟩ a).setCell ⟨g, 1, none⟩ b).setCell ⟨g, 2, none⟩ c) (fun q => w.heap.size ≤ q ∧ q < (((w1.setCell ⟨g, 0, none⟩ a).setCell ⟨g, 1, none⟩ b).setCell ⟨g, 2, none⟩ c).heap.size) 3 SpE c C ∧
    Below w.heap.size w (((w1.setCell ⟨g, 0, none⟩ a).setCell ⟨g, 1, none⟩ b).setCell ⟨g, 2, none⟩ c) := by
  obtain ⟨r0, r1, r2, hK, hS⟩ := box3 hG a b c
  have hBW := ((hB.setCell (p := ⟨g, 0, none⟩) hg a).setCell (p := ⟨g, 1, none⟩) hg b).setCell (p := ⟨g, 2, none⟩) hg c
  exact ⟨r0, r1, r2, rda_up (fun q hq => hK q (by omega)) (fun q hq => ⟨by omega, by rw [hS]; exact hq.2⟩) _ _ _ hrd, hsl.up (fun q hq => hK q (by omega)) (fun q hq => ⟨by omega, by rw [hS]; exact hq.2⟩) (fun _ _ _ h => h), hBW⟩
set_option maxHeartbeats 4000000 in
theorem leaf_any (u : Tr) (o : Opr) (d : Dt) (ve vk vp : Value) (w : World) (h : u.rd w w.heap.size ve vk) (hp : SlP w w.heap.size 1 StE vp o.path) (ho : o.Ok) (hd : d.Ok) (hN : u.sz ≤ 4000) :
    Calls Tryz.prog 138 #[.agg #[ve, vk], .agg #[vp, .int .i64 o.act, .string o.s, .int .i64 o.n], .agg #[.int .i64 d.dc, .int .i64 d.n]] w (RetCE w (leafX u o d).1 (leafX u o d).2.1 (leafX u o d).2.2) := by
  have HC : Hid (∀ w', Below w.heap.size w w' → u.rd w' w'.heap.size ve vk) := fun w' hb => rd_below hb hb.size _ _ _ h
  obtain ⟨A3, n3, A4, n4, rfl, rfl⟩ := rd_shape h
  obtain ⟨A5, n5, rfl, _⟩ := hp
  obtain ⟨oa, on, os⟩ := ho
  obtain ⟨path, act, s, n⟩ := o
  simp only at oa on os ⊢
  have hb0 := ((((Below.refl w.heap.size w).alloc (Nat.le_refl _) (.cells #[.slice A3 u.es.length n3, .slice A4 u.ks.length n4] 25)).alloc (by simp) (.cells #[.slice A5 path.length n5, .int .i64 act, .string s, .int .i64 n] 67)).alloc (by simp; omega) (.cells #[.int .i64 d.dc, .int .i64 d.n] 52)).alloc (by simp; omega) (.cells #[.slice none 0 0, .slice none 0 0, .slice none 0 0] 29)
  have HX : Hid (∀ W, Below (w.heap.size + 4) ((((w.alloc (.cells #[.slice A3 u.es.length n3, .slice A4 u.ks.length n4] 25)).alloc (.cells #[.slice A5 path.length n5, .int .i64 act, .string s, .int .i64 n] 67)).alloc (.cells #[.int .i64 d.dc, .int .i64 d.n] 52)).alloc (.cells #[.slice none 0 0, .slice none 0 0, .slice none 0 0] 29)) W →
      (Below w.heap.size w W ∧ W.cell? ⟨w.heap.size, 0, none⟩ = some (.slice A3 u.es.length n3) ∧ W.cell? ⟨w.heap.size, 1, none⟩ = some (.slice A4 u.ks.length n4) ∧ W.cell? ⟨w.heap.size + 1, 0, none⟩ = some (.slice A5 path.length n5) ∧ W.cell? ⟨w.heap.size + 1, 1, none⟩ = some (.int .i64 act) ∧ W.cell? ⟨w.heap.size + 1, 2, none⟩ = some (.string s) ∧ W.cell? ⟨w.heap.size + 1, 3, none⟩ = some (.int .i64 n) ∧
        W.cell? ⟨w.heap.size + 2, 0, none⟩ = some (.int .i64 d.dc) ∧ W.cell? ⟨w.heap.size + 2, 1, none⟩ = some (.int .i64 d.n) ∧ W.heap[w.heap.size + 3]? = some (.cells #[.slice none 0 0, .slice none 0 0, .slice none 0 0] 29 (0, 0)))) := fun W hW => by
    have g0 : W.heap[w.heap.size]? = some (.cells #[.slice A3 u.es.length n3, .slice A4 u.ks.length n4] 25 (0, 0)) := (hW.block _ (by omega)).trans ((heap_old (by simp <;> omega)).trans ((heap_old (by simp <;> omega)).trans ((heap_old (by simp)).trans (heap_new rfl))))
    have g1 : W.heap[w.heap.size + 1]? = some (.cells #[.slice A5 path.length n5, .int .i64 act, .string s, .int .i64 n] 67 (0, 0)) := (hW.block _ (by omega)).trans ((heap_old (by simp <;> omega)).trans ((heap_old (by simp)).trans (heap_new (by simp))))
    have g2 : W.heap[w.heap.size + 2]? = some (.cells #[.int .i64 d.dc, .int .i64 d.n] 52 (0, 0)) := (hW.block _ (by omega)).trans ((heap_old (by simp)).trans (heap_new (by simp)))
    have g3 : W.heap[w.heap.size + 3]? = some (.cells #[.slice none 0 0, .slice none 0 0, .slice none 0 0] 29 (0, 0)) := (hW.block _ (by omega)).trans (heap_new (by simp))
    exact ⟨hb0.trans (hW.mono (by omega)), cell_cells (i := 0) g0, cell_cells (i := 1) g0, cell_cells (i := 0) g1, cell_cells (i := 1) g1, cell_cells (i := 2) g1, cell_cells (i := 3) g1, cell_cells (i := 0) g2, cell_cells (i := 1) g2, g3⟩
  clear h
  by_cases a1 : act = 1
  · subst a1
    rw [leafX_1 rfl]
    go_enter Tryz.func138, Tryz.ntmps138
    obtain ⟨hB0, c0, c1, p0, p1, p2, p3, d0, d1, g3⟩ := HX.out _ (Below.refl _ _)
    clear g3
    go_wp2_with fail
    refine (fenable_any u d _ _ _ (HC.out _ hb0) (by omega) hd).mono ?_
    rintro e w1 ⟨ve1, vk1, vc1, rfl, hrd1, hsl1, hb1⟩
    obtain ⟨Av, nv, Aw, nw, rfl, rfl⟩ := rda_shape hrd1
    obtain ⟨Ac, nc, rfl⟩ := hsl1.shape
    simp only [World.size_alloc] at hrd1 hsl1 hb1
    have hBx : Below (w.heap.size + 4) _ w1 := hb1.mono (by omega)
    clear c0 c1 p0 p1 p2 p3 d0 d1
    obtain ⟨hB1, c0, c1, p0, p1, p2, p3, d0, d1, hG⟩ := HX.out _ hBx
    have HG := hid hG
    have k0 := cell_cells (i := 0) hG
    have k1 := cell_cells (i := 1) hG
    have k2 := cell_cells (i := 2) hG
    simp only [List.getElem?_toArray, List.getElem?_cons_zero, List.getElem?_cons_succ] at k0 k1 k2
    have z0 := cells_frz (i := 0) hG
    have z1 := cells_frz (i := 1) hG
    have z2 := cells_frz (i := 2) hG
    have HR := hid hrd1
    have HS := hid hsl1
    have HB := hid hB1
    clear hrd1 hsl1 hb1 hBx hG hB1 c0 c1 p0 p1 p2 p3 d0 d1
    go_wp2_with fail
    obtain ⟨r0, r1, r2, q1, q2, q3⟩ := box_fin HG.out HB.out (by omega) (by omega) HR.out HS.out
    exact bodyPost_ret (v := .tuple #[.agg #[_, _, _], .int .i64 _]) (by simp [results, Tryz.results138, go_sem, r0, r1, r2] <;> rfl) rfl ⟨_, _, _, rfl, q1, q2, q3⟩
  by_cases a2 : act = 2
  · subst a2
    rw [leafX_2 rfl]
    go_enter Tryz.func138, Tryz.ntmps138
    obtain ⟨hB0, c0, c1, p0, p1, p2, p3, d0, d1, g3⟩ := HX.out _ (Below.refl _ _)
    clear g3
    go_wp2_with fail
    refine (fdisable_any u d _ _ _ (HC.out _ hb0) (by omega) hd).mono ?_
    rintro e w1 ⟨ve1, vk1, vc1, rfl, hrd1, hsl1, hb1⟩
    obtain ⟨Av, nv, Aw, nw, rfl, rfl⟩ := rda_shape hrd1
    obtain ⟨Ac, nc, rfl⟩ := hsl1.shape
    simp only [World.size_alloc] at hrd1 hsl1 hb1
    have hBx : Below (w.heap.size + 4) _ w1 := hb1.mono (by omega)
    clear c0 c1 p0 p1 p2 p3 d0 d1
    obtain ⟨hB1, c0, c1, p0, p1, p2, p3, d0, d1, hG⟩ := HX.out _ hBx
    have HG := hid hG
    have k0 := cell_cells (i := 0) hG
    have k1 := cell_cells (i := 1) hG
    have k2 := cell_cells (i := 2) hG
    simp only [List.getElem?_toArray, List.getElem?_cons_zero, List.getElem?_cons_succ] at k0 k1 k2
    have z0 := cells_frz (i := 0) hG
    have z1 := cells_frz (i := 1) hG
    have z2 := cells_frz (i := 2) hG
    have HR := hid hrd1
    have HS := hid hsl1
    have HB := hid hB1
    clear hrd1 hsl1 hb1 hBx hG hB1 c0 c1 p0 p1 p2 p3 d0 d1
    go_wp2_with fail
    obtain ⟨r0, r1, r2, q1, q2, q3⟩ := box_fin HG.out HB.out (by omega) (by omega) HR.out HS.out
    exact bodyPost_ret (v := .tuple #[.agg #[_, _, _], .int .i64 _]) (by simp [results, Tryz.results138, go_sem, r0, r1, r2] <;> rfl) rfl ⟨_, _, _, rfl, q1, q2, q3⟩
  by_cases a3 : act = 3
  · subst a3
    rw [leafX_3 rfl]
    go_enter Tryz.func138, Tryz.ntmps138
    obtain ⟨hB0, c0, c1, p0, p1, p2, p3, d0, d1, g3⟩ := HX.out _ (Below.refl _ _)
    clear g3
    go_wp2_with fail
    refine (sadd_any u s d _ _ _ (HC.out _ hb0) os (by omega) hd).mono ?_
    rintro e w1 ⟨ve1, vk1, vc1, rfl, hrd1, hsl1, hb1⟩
    obtain ⟨Av, nv, Aw, nw, rfl, rfl⟩ := rda_shape hrd1
    obtain ⟨Ac, nc, rfl⟩ := hsl1.shape
    simp only [World.size_alloc] at hrd1 hsl1 hb1
    have hBx : Below (w.heap.size + 4) _ w1 := hb1.mono (by omega)
    clear c0 c1 p0 p1 p2 p3 d0 d1
    obtain ⟨hB1, c0, c1, p0, p1, p2, p3, d0, d1, hG⟩ := HX.out _ hBx
    have HG := hid hG
    have k0 := cell_cells (i := 0) hG
    have k1 := cell_cells (i := 1) hG
    have k2 := cell_cells (i := 2) hG
    simp only [List.getElem?_toArray, List.getElem?_cons_zero, List.getElem?_cons_succ] at k0 k1 k2
    have z0 := cells_frz (i := 0) hG
    have z1 := cells_frz (i := 1) hG
    have z2 := cells_frz (i := 2) hG
    have HR := hid hrd1
    have HS := hid hsl1
    have HB := hid hB1
    clear hrd1 hsl1 hb1 hBx hG hB1 c0 c1 p0 p1 p2 p3 d0 d1
    go_wp2_with fail
    obtain ⟨r0, r1, r2, q1, q2, q3⟩ := box_fin HG.out HB.out (by omega) (by omega) HR.out HS.out
    exact bodyPost_ret (v := .tuple #[.agg #[_, _, _], .int .i64 _]) (by simp [results, Tryz.results138, go_sem, r0, r1, r2] <;> rfl) rfl ⟨_, _, _, rfl, q1, q2, q3⟩
  by_cases a4 : act = 4
  · subst a4
    rw [leafX_4 rfl]
    go_enter Tryz.func138, Tryz.ntmps138
    obtain ⟨hB0, c0, c1, p0, p1, p2, p3, d0, d1, g3⟩ := HX.out _ (Below.refl _ _)
    clear g3
    go_wp2_with fail
    refine (sdel_any u s d _ _ _ (HC.out _ hb0) os (by omega) hd).mono ?_
    rintro e w1 ⟨ve1, vk1, vc1, rfl, hrd1, hsl1, hb1⟩
    obtain ⟨Av, nv, Aw, nw, rfl, rfl⟩ := rda_shape hrd1
    obtain ⟨Ac, nc, rfl⟩ := hsl1.shape
    simp only [World.size_alloc] at hrd1 hsl1 hb1
    have hBx : Below (w.heap.size + 4) _ w1 := hb1.mono (by omega)
    clear c0 c1 p0 p1 p2 p3 d0 d1
    obtain ⟨hB1, c0, c1, p0, p1, p2, p3, d0, d1, hG⟩ := HX.out _ hBx
    have HG := hid hG
    have k0 := cell_cells (i := 0) hG
    have k1 := cell_cells (i := 1) hG
    have k2 := cell_cells (i := 2) hG
    simp only [List.getElem?_toArray, List.getElem?_cons_zero, List.getElem?_cons_succ] at k0 k1 k2
    have z0 := cells_frz (i := 0) hG
    have z1 := cells_frz (i := 1) hG
    have z2 := cells_frz (i := 2) hG
    have HR := hid hrd1
    have HS := hid hsl1
    have HB := hid hB1
    clear hrd1 hsl1 hb1 hBx hG hB1 c0 c1 p0 p1 p2 p3 d0 d1
    go_wp2_with fail
    obtain ⟨r0, r1, r2, q1, q2, q3⟩ := box_fin HG.out HB.out (by omega) (by omega) HR.out HS.out
    exact bodyPost_ret (v := .tuple #[.agg #[_, _, _], .int .i64 _]) (by simp [results, Tryz.results138, go_sem, r0, r1, r2] <;> rfl) rfl ⟨_, _, _, rfl, q1, q2, q3⟩
  by_cases a5 : act = 5
  · subst a5
    rw [leafX_5 rfl]
    go_enter Tryz.func138, Tryz.ntmps138
    obtain ⟨hB0, c0, c1, p0, p1, p2, p3, d0, d1, g3⟩ := HX.out _ (Below.refl _ _)
    clear g3
    go_wp2_with fail
    refine (cinc_any u n d _ _ _ (HC.out _ hb0) (by omega) on hd).mono ?_
    rintro e w1 ⟨ve1, vk1, vc1, rfl, hrd1, hsl1, hb1⟩
    obtain ⟨Av, nv, Aw, nw, rfl, rfl⟩ := rda_shape hrd1
    obtain ⟨Ac, nc, rfl⟩ := hsl1.shape
    simp only [World.size_alloc] at hrd1 hsl1 hb1
    have hBx : Below (w.heap.size + 4) _ w1 := hb1.mono (by omega)
    clear c0 c1 p0 p1 p2 p3 d0 d1
    obtain ⟨hB1, c0, c1, p0, p1, p2, p3, d0, d1, hG⟩ := HX.out _ hBx
    have HG := hid hG
    have k0 := cell_cells (i := 0) hG
    have k1 := cell_cells (i := 1) hG
    have k2 := cell_cells (i := 2) hG
    simp only [List.getElem?_toArray, List.getElem?_cons_zero, List.getElem?_cons_succ] at k0 k1 k2
    have z0 := cells_frz (i := 0) hG
    have z1 := cells_frz (i := 1) hG
    have z2 := cells_frz (i := 2) hG
    have HR := hid hrd1
    have HS := hid hsl1
    have HB := hid hB1
    clear hrd1 hsl1 hb1 hBx hG hB1 c0 c1 p0 p1 p2 p3 d0 d1
    go_wp2_with fail
    obtain ⟨r0, r1, r2, q1, q2, q3⟩ := box_fin HG.out HB.out (by omega) (by omega) HR.out HS.out
    exact bodyPost_ret (v := .tuple #[.agg #[_, _, _], .int .i64 _]) (by simp [results, Tryz.results138, go_sem, r0, r1, r2] <;> rfl) rfl ⟨_, _, _, rfl, q1, q2, q3⟩
  by_cases a6 : act = 6
  · subst a6
    rw [leafX_6 rfl]
    go_enter Tryz.func138, Tryz.ntmps138
    obtain ⟨hB0, c0, c1, p0, p1, p2, p3, d0, d1, g3⟩ := HX.out _ (Below.refl _ _)
    clear g3
    go_wp2_with fail
    refine (rwrite_any u s d _ _ _ (HC.out _ hb0) os (by omega) hd).mono ?_
    rintro e w1 ⟨ve1, vk1, vc1, rfl, hrd1, hsl1, hb1⟩
    obtain ⟨Av, nv, Aw, nw, rfl, rfl⟩ := rda_shape hrd1
    obtain ⟨Ac, nc, rfl⟩ := hsl1.shape
    simp only [World.size_alloc] at hrd1 hsl1 hb1
    have hBx : Below (w.heap.size + 4) _ w1 := hb1.mono (by omega)
    clear c0 c1 p0 p1 p2 p3 d0 d1
    obtain ⟨hB1, c0, c1, p0, p1, p2, p3, d0, d1, hG⟩ := HX.out _ hBx
    have HG := hid hG
    have k0 := cell_cells (i := 0) hG
    have k1 := cell_cells (i := 1) hG
    have k2 := cell_cells (i := 2) hG
    simp only [List.getElem?_toArray, List.getElem?_cons_zero, List.getElem?_cons_succ] at k0 k1 k2
    have z0 := cells_frz (i := 0) hG
    have z1 := cells_frz (i := 1) hG
    have z2 := cells_frz (i := 2) hG
    have HR := hid hrd1
    have HS := hid hsl1
    have HB := hid hB1
    clear hrd1 hsl1 hb1 hBx hG hB1 c0 c1 p0 p1 p2 p3 d0 d1
    go_wp2_with fail
    obtain ⟨r0, r1, r2, q1, q2, q3⟩ := box_fin HG.out HB.out (by omega) (by omega) HR.out HS.out
    exact bodyPost_ret (v := .tuple #[.agg #[_, _, _], .int .i64 _]) (by simp [results, Tryz.results138, go_sem, r0, r1, r2] <;> rfl) rfl ⟨_, _, _, rfl, q1, q2, q3⟩
  · have hX : leafX u ⟨path, act, s, n⟩ d = (.mk [] [], disC u d, chkI u d) := by unfold leafX; rw [if_neg a1, if_neg a2, if_neg a3, if_neg a4, if_neg a5, if_neg a6]
    rw [hX]
    have e1 : (act == 1) = false := by simpa using a1
    have e2 : (act == 2) = false := by simpa using a2
    have e3 : (act == 3) = false := by simpa using a3
    have e4 : (act == 4) = false := by simpa using a4
    have e5 : (act == 5) = false := by simpa using a5
    have e6 : (act == 6) = false := by simpa using a6
    go_enter Tryz.func138, Tryz.ntmps138
    obtain ⟨hB0, c0, c1, p0, p1, p2, p3, d0, d1, g3⟩ := HX.out _ (Below.refl _ _)
    clear g3
    go_wp2_with fail
    refine (oreset_any u d _ _ _ (HC.out _ hb0) (by omega) hd).mono ?_
    rintro e w1 ⟨ve1, vk1, vc1, rfl, hrd1, hsl1, hb1⟩
    obtain ⟨Av, nv, Aw, nw, rfl, rfl⟩ := rda_shape hrd1
    obtain ⟨Ac, nc, rfl⟩ := hsl1.shape
    simp only [World.size_alloc] at hrd1 hsl1 hb1
    have hBx : Below (w.heap.size + 4) _ w1 := hb1.mono (by omega)
    clear c0 c1 p0 p1 p2 p3 d0 d1
    obtain ⟨hB1, c0, c1, p0, p1, p2, p3, d0, d1, hG⟩ := HX.out _ hBx
    have HG := hid hG
    have k0 := cell_cells (i := 0) hG
    have k1 := cell_cells (i := 1) hG
    have k2 := cell_cells (i := 2) hG
    simp only [List.getElem?_toArray, List.getElem?_cons_zero, List.getElem?_cons_succ] at k0 k1 k2
    have z0 := cells_frz (i := 0) hG
    have z1 := cells_frz (i := 1) hG
    have z2 := cells_frz (i := 2) hG
    have HR := hid hrd1
    have HS := hid hsl1
    have HB := hid hB1
    clear hrd1 hsl1 hb1 hBx hG hB1 c0 c1 p0 p1 p2 p3 d0 d1
    go_wp2_with fail
    obtain ⟨r0, r1, r2, q1, q2, q3⟩ := box_fin HG.out HB.out (by omega) (by omega) HR.out HS.out
    exact bodyPost_ret (v := .tuple #[.agg #[_, _, _], .int .i64 _]) (by simp [results, Tryz.results138, go_sem, r0, r1, r2] <;> rfl) rfl ⟨_, _, _, rfl, q1, q2, q3⟩
end Go.Proofs.YtlapdmgjfdelnaaGreat

namespace Go.Proofs.YtlapdmgjfdelnaaGreat
open Go.RowKit
set_option maxRecDepth 100000

/-- What one lies as: its tree and its context. -/
def CaE (w : World) (B : Nat) (x : Tr × List Sp) (cs : List Value) : Prop := ∃ ve vk vc, cs = [ve, vk, vc] ∧ x.1.rd w B ve vk ∧ SlP w B 3 SpE vc x.2
end Go.Proofs.YtlapdmgjfdelnaaGreat

namespace Go.Proofs.YtlapdmgjfdelnaaGreat
open Go.RowKit
set_option maxRecDepth 100000

theorem Calls.boolEq {P : Program} {f : FuncId} {args : Array Value} {w : World} {b c : Bool} (h : Calls P f args w fun e w' => e = .returned (.bool b) ∧ Below w.heap.size w w') (hb : b = c) : Calls P f args w fun e w' => e = .returned (.bool c) ∧ Below w.heap.size w w' := hb ▸ h
end Go.Proofs.YtlapdmgjfdelnaaGreat

namespace Go.Proofs.YtlapdmgjfdelnaaGreat
open Go.RowKit
set_option maxRecDepth 100000

theorem r10own_any (t : Tr) (ve vk : Value) (w : World) (h : t.rd w w.heap.size ve vk) (hN : t.sz ≤ 90000) (hR : ∀ d ∈ ownD t, 0 ≤ d.n ∧ d.n ≤ 1099511627778) :
    Calls Tryz.prog 195 #[.agg #[ve, vk]] w (RetO w 45 3 (fun _ => SpE) (ctxOf (ownD t))) := by
  obtain ⟨es, ks⟩ := t
  have hsl := (rd_iff.1 h).1
  have hz : es.length ≤ 90000 := by rw [Tr.sz] at hN; omega
  have hD : (Tr.mk es []).dots = ownD (.mk es ks) := by unfold ownD; rw [Tr.dots, Tr.dotsL, List.append_nil]; rfl
  obtain ⟨A3, n3, A4, n4, rfl, rfl⟩ := rd_shape h
  have HE : Hid (∀ w', Below w.heap.size w w' → (Tr.mk es []).rd w' w'.heap.size (.slice A3 es.length n3) (.slice none 0 0)) := fun w' hb => rd_iff.2 ⟨hsl.imp hb hb.size fun _ _ _ h => h, SlP.nil⟩
  have HRR : Hid (∀ d ∈ (Tr.mk es []).dots, 0 ≤ d.n ∧ d.n ≤ 1099511627778) := by unfold Hid; rw [hD]; exact hR
  have hb0 : Below w.heap.size w (w.alloc (.cells #[.slice A3 (Tr.mk es ks).es.length n3, .slice A4 (Tr.mk es ks).ks.length n4] 25)) := (Below.refl _ w).alloc (Nat.le_refl _) _
  clear h hsl
  go_enter Tryz.func195, Tryz.ntmps195
  go_wp2_with fail
  refine (r08dots_any (.mk es []) _ _ _ (HE.out _ hb0) (by rw [Tr.sz, Tr.szL]; omega) HRR.out).mono ?_
  rw [hD]
  rintro e w1 ⟨v1, rfl, ho1, hb1⟩
  go_wp2_with fail
  go_ret
  exact ⟨_, rfl, ho1.mono (by simp), hb0.trans (hb1.mono (by simp))⟩
end Go.Proofs.YtlapdmgjfdelnaaGreat

namespace Go.Proofs.YtlapdmgjfdelnaaGreat
open Go.RowKit
set_option maxRecDepth 100000

theorem ctx_add {d : Dt} {l : List Dt} (hd : d.right = true) (hl : ∀ x ∈ l, x.right = true) : ctxOf (d :: l) = ctxBy (ctxOf l) [⟨d.dc, d.n, d.n⟩] 0 := by
  rw [ctxOf_whole, ctxBy_whole]
  refine whole_eq fun i hi => ?_
  rw [part_ctxOf l hi]
  have hb := (right_bd hd).2
  have hda : ∀ x ∈ d :: l, x.right = true := fun x hx => by
    rcases List.mem_cons.1 hx with rfl | hx
    · exact hd
    · exact hl x hx
  obtain ⟨a1, a2⟩ := ofL_right (nums_ok hda (i : Int))
  obtain ⟨b1, b2⟩ := ofL_right (nums_ok hl (i : Int))
  have hp : ∀ r ∈ partL [(⟨d.dc, d.n, d.n⟩ : Sp)] (i : Int), runOk r := fun r hr => by
    unfold partL at hr
    obtain ⟨s, hs, rfl⟩ := List.mem_map.1 hr
    have := (List.mem_filter.1 hs).1
    simp at this; subst this
    exact ⟨hb.1, Int.le_refl _, hb.2⟩
  obtain ⟨c1, c2⟩ := byL_right (a := ofL (numsL l (i : Int))) (b := partL [(⟨d.dc, d.n, d.n⟩ : Sp)] (i : Int)) 0 (runs_ok _ none b1) hp
  refine runs_eq _ _ none none a1 c1 fun n => ?_
  rw [c2, Bool.eq_iff_iff, a2]
  have hn : (hasL (ofL (numsL l (i : Int))) n = true) ↔ n ∈ numsL l (i : Int) := b2 n
  simp only [inn, if_neg (show ¬ ((0 : Int) = 2) by decide), if_neg (show ¬ ((0 : Int) = 1) by decide), Bool.or_eq_true, hn]
  by_cases e : d.dc = (i : Int)
  · have h1 : numsL (d :: l) (i : Int) = d.n :: numsL l (i : Int) := by simp [numsL, e]
    have h2 : partL [(⟨d.dc, d.n, d.n⟩ : Sp)] (i : Int) = [(d.n, d.n)] := by simp [partL, e]
    rw [h1, h2, List.mem_cons]
    simp [hasL, inR]
    constructor
    · rintro (h | h)
      · exact .inr ⟨by omega, by omega⟩
      · exact .inl h
    · rintro (h | ⟨h, k⟩)
      · exact .inr h
      · exact .inl (by omega)
  · have h1 : numsL (d :: l) (i : Int) = numsL l (i : Int) := by simp [numsL, e]
    have h2 : partL [(⟨d.dc, d.n, d.n⟩ : Sp)] (i : Int) = [] := by simp [partL, e]
    rw [h1, h2]; simp [hasL]
end Go.Proofs.YtlapdmgjfdelnaaGreat

namespace Go.Proofs.YtlapdmgjfdelnaaGreat
open Go.RowKit
set_option maxRecDepth 100000

def aftK (x : Kn) (o : Opr) (d : Dt) : Kn := jn x (appT x.1 o d, appC x.1 o d)
theorem aft_ok {x : Kn} (hx : KOk x) {o : Opr} {d : Dt} (h : appI x.1 o d = 0) : KOk (aftK x o d) := jn_okK hx (app_right h).1
theorem st_es {u : Tr} (ho : u.Ord) {y : En} : y ∈ u.es ↔ stE u [] y.dot = some y := by rw [stE_some ho, ← mem_es]; simp
end Go.Proofs.YtlapdmgjfdelnaaGreat

namespace Go.Proofs.YtlapdmgjfdelnaaGreat
open Go.RowKit
set_option maxRecDepth 100000

def renE (f : Dt → Dt) (e : En) : En := ⟨(f e.dot).dc, (f e.dot).n, e.s, e.v⟩
/-- Two trees that are one but for the names. -/
def RnT (f : Dt → Dt) (s t : Tr) : Prop := ∀ p y, ((p, y) : Lf) ∈ t.lvs [] ↔ ∃ e, ((p, e) : Lf) ∈ s.lvs [] ∧ y = renE f e
structure RnK (f : Dt → Dt) (x y : Kn) : Prop where
  okx : KOk x
  oky : KOk y
  lf : RnT f x.1 y.1
  inj : ∀ d e, hasC x.2 d = true → hasC x.2 e = true → f d = f e → d = e
  ctx : ∀ d, hasC y.2 d = true ↔ ∃ e, hasC x.2 e = true ∧ f e = d
theorem RnT.get {f : Dt → Dt} {s t : Tr} (h : RnT f s t) (hs : s.Ord) (ht : t.Ord) (p : List ByteArray) : RnT f (getK s p) (getK t p) := fun q y => by
  rw [mem_getP p ht, h]
  exact ⟨fun ⟨e, h1, h2⟩ => ⟨e, (mem_getP p hs).2 h1, h2⟩, fun ⟨e, h1, h2⟩ => ⟨e, (mem_getP p hs).1 h1, h2⟩⟩
theorem RnT.keys {f : Dt → Dt} {s t : Tr} (h : RnT f s t) (hs : s.Ord) (ht : t.Ord) : s.ks.map (·.1) = t.ks.map (·.1) := by
  refine sorted_ext ltS_irrefl (fun _ _ _ h k => ltS_trans h k) ?_ ?_ fun k => ?_
  · obtain ⟨es, ks⟩ := s
    exact List.pairwise_map.2 (ord_iff.1 hs).2.1
  · obtain ⟨es, ks⟩ := t
    exact List.pairwise_map.2 (ord_iff.1 ht).2.1
  · rw [keys_leaf hs, keys_leaf ht]
    exact ⟨fun ⟨q, e, h1⟩ => ⟨q, _, (h _ _).2 ⟨e, h1, rfl⟩⟩, fun ⟨q, y, h1⟩ => by obtain ⟨e, h2, _⟩ := (h _ _).1 h1; exact ⟨q, e, h2⟩⟩
theorem es_nodup {t : Tr} (ht : t.Ord) : t.es.Nodup := by
  obtain ⟨es, ks⟩ := t
  exact (ord_iff.1 ht).1.imp fun {a b} hh e => by rw [e, ltD_irrefl] at hh; cases hh
theorem RnT.es {f : Dt → Dt} {s t : Tr} (h : RnT f s t) (hs : s.Ord) (ht : t.Ord) (hi : ∀ d ∈ s.es, ∀ e ∈ s.es, f d.dot = f e.dot → d.dot = e.dot) : t.es.Perm (s.es.map (renE f)) := by
  refine (List.perm_ext_iff_of_nodup (es_nodup ht) ?_).2 fun y => ?_
  · refine List.pairwise_map.2 ((es_nodup hs).imp_of_mem fun {a b} ha hb hne e => hne ?_)
    have h1 : a.dot = b.dot := hi a ha b hb (congrArg En.dot e)
    have h2 := (st_es hs).1 ha
    have h3 := (st_es hs).1 hb
    rw [h1, h3] at h2; cases h2; rfl
  · rw [← mem_es, h, List.mem_map]
    exact ⟨fun ⟨e, h1, h2⟩ => ⟨e, mem_es.1 h1, h2.symm⟩, fun ⟨e, h1, h2⟩ => ⟨e, mem_es.2 h1, h2.symm⟩⟩
theorem sumP_ren (f : Dt → Dt) (es : List En) : sumP (es.map (renE f)) = sumP es := by
  induction es with
  | nil => rfl
  | cons e es ih => rw [List.map_cons, sumP_cons, sumP_cons, ih]; rfl
theorem view_ren {f : Dt → Dt} {s t : Tr} (h : RnT f s t) (hs : s.right 5 = true) (ht : t.right 5 = true) (hi : ∀ d ∈ s.es, ∀ e ∈ s.es, f d.dot = f e.dot → d.dot = e.dot) (hz : s.es.length ≤ 100) (k : Int) : viewK k s = viewK k t := by
  have os := right_ord _ _ hs
  have ot := right_ord _ _ ht
  have hp := h.es os ot hi
  have hl := hp.length_eq
  rw [List.length_map] at hl
  have e1 : onB s = onB t := by unfold onB; rw [hs, ht, hl]
  have hbd : ∀ {A : Tr}, A.right 5 = true → ∀ e ∈ A.es, -1099511627776 ≤ e.v ∧ e.v ≤ 1099511627776 := fun {A} hA e he => by
    have := (right_leaf A 5 hA ([], e) (mem_es.2 he)).2.2
    unfold En.right at this; simp at this; omega
  have e2 : valT s = valT t := by
    unfold valT
    rw [hs, ht, if_pos rfl, if_pos rfl, (sumE_P (hbd hs) hz).1, (sumE_P (hbd ht) (by omega)).1, sumP_perm hp, sumP_ren]
  have e3 : elemsOf s = elemsOf t := by
    rw [elems_right hs, elems_right ht]
    refine sorted_ext ltS_irrefl (fun _ _ _ h k => ltS_trans h k) (elL_sorted os) (elL_sorted ot) fun x => ?_
    rw [elL_mem, elL_mem]
    exact ⟨fun ⟨e, h1⟩ => ⟨_, (h _ _).2 ⟨e, h1, rfl⟩⟩, fun ⟨y, h1⟩ => by obtain ⟨e, h2, _⟩ := (h _ _).1 h1; exact ⟨e, h2⟩⟩
  have e4 : valsOf s = valsOf t := by
    rw [valsR hs, valsR ht]
    refine sdExt fun x => ?_
    unfold txtL
    rw [List.mem_map, List.mem_map]
    constructor
    · rintro ⟨e, h1, rfl⟩; exact ⟨renE f e, mem_es.1 ((h _ _).2 ⟨e, mem_es.2 h1, rfl⟩), rfl⟩
    · rintro ⟨y, h1, rfl⟩
      obtain ⟨e, h2, rfl⟩ := (h _ _).1 (mem_es.2 h1)
      exact ⟨e, mem_es.1 h2, rfl⟩
  have e5 : keysOf s = keysOf t := by unfold keysOf; rw [hs, ht, if_pos rfl, if_pos rfl, h.keys os ot]
  unfold viewK
  rw [e1, e2, e3, e4, e5]
/-- Which of a change's tree's leaves it has seen. -/
def seeAt (o : Opr) (p : List ByteArray) : Prop := if o.act = 3 ∨ o.act = 4 then ∃ q, p = o.path ++ [o.s] ++ q else if o.act = 5 then False else if o.act = 6 then p = o.path else ∃ q, p = o.path ++ q
theorem sees_iff {t : Tr} (h : t.Ord) {o : Opr} {x : Dt} : x ∈ seesD t o ↔ ∃ p e, ((p, e) : Lf) ∈ t.lvs [] ∧ e.dot = x ∧ seeAt o p := by
  unfold seesD seeAt
  split
  · rw [getP_dots h]
    exact ⟨fun ⟨q, e, h1, h2⟩ => ⟨_, e, h1, h2, q, rfl⟩, fun ⟨p, e, h1, h2, q, h3⟩ => ⟨q, e, h3 ▸ h1, h2⟩⟩
  · split
    · simp
    · split
      · rw [own_at h]
        exact ⟨fun ⟨e, h1, h2⟩ => ⟨_, e, h1, h2, rfl⟩, fun ⟨p, e, h1, h2, h3⟩ => ⟨e, h3 ▸ h1, h2⟩⟩
      · rw [getP_dots h]
        exact ⟨fun ⟨q, e, h1, h2⟩ => ⟨_, e, h1, h2, q, rfl⟩, fun ⟨p, e, h1, h2, q, h3⟩ => ⟨q, e, h3 ▸ h1, h2⟩⟩
theorem RnK.sees {f : Dt → Dt} {x y : Kn} (h : RnK f x y) {o : Opr} {z : Dt} (hz : hasC x.2 z = true) : f z ∈ seesD y.1 o ↔ z ∈ seesD x.1 o := by
  rw [sees_iff h.oky.ord, sees_iff h.okx.ord]
  constructor
  · rintro ⟨p, e, h1, h2, h3⟩
    obtain ⟨e1, h4, rfl⟩ := (h.lf _ _).1 h1
    exact ⟨p, e1, h4, h.inj _ _ (h.okx.has _ h4) hz h2, h3⟩
  · rintro ⟨p, e, h1, rfl, h3⟩
    exact ⟨p, renE f e, (h.lf _ _).2 ⟨e, h1, rfl⟩, rfl, h3⟩
theorem RnK.fullAt {f : Dt → Dt} {x y : Kn} (h : RnK f x y) (p : List ByteArray) (k : Nat) : fullAt x.1 p k = fullAt y.1 p k := by
  have h1 := (h.lf.get h.okx.ord h.oky.ord (p.take k)).keys (getP_ord h.okx.ord _) (getP_ord h.oky.ord _)
  have h2 : (getK x.1 (p.take k)).ks.length = (getK y.1 (p.take k)).ks.length := by have := congrArg List.length h1; simpa using this
  have h3 : ∀ s, hasK (getK x.1 (p.take k)) s = hasK (getK y.1 (p.take k)) s := fun s => by
    rw [Bool.eq_iff_iff]
    unfold hasK
    rw [List.any_eq_true, List.any_eq_true]
    have h4 : ∀ t : Tr, (∃ z ∈ t.ks, decide (z.1 = s) = true) ↔ s ∈ t.ks.map (·.1) := fun t => by rw [List.mem_map]; simp
    rw [h4, h4, h1]
  unfold Go.Proofs.YtlapdmgjfdelnaaGreat.fullAt
  rw [h2, h3]
theorem RnK.dotEs {f : Dt → Dt} {x y : Kn} (h : RnK f x y) (p : List ByteArray) : ∀ d ∈ (getK x.1 p).es, ∀ e ∈ (getK x.1 p).es, f d.dot = f e.dot → d.dot = e.dot := fun d hd e he => by
  have h1 : ∀ d ∈ (getK x.1 p).es, hasC x.2 d.dot = true := fun d hd => h.okx.has _ ((mem_getP p h.okx.ord).1 (mem_es.2 hd))
  exact h.inj _ _ (h1 d hd) (h1 e he)
theorem RnK.full {f : Dt → Dt} {x y : Kn} (h : RnK f x y) (o : Opr) : fullB x.1 o = fullB y.1 o := by
  have h1 := ((h.lf.get h.okx.ord h.oky.ord (endP o)).es (getP_ord h.okx.ord _) (getP_ord h.oky.ord _) (h.dotEs _)).length_eq
  rw [List.length_map] at h1
  unfold fullB fullP
  rw [h1, any_congr' fun k _ => h.fullAt (endP o) k]
theorem RnK.app {f : Dt → Dt} {x y : Kn} (h : RnK f x y) (o : Opr) {d e : Dt} (hd : d.right = true) (he : e.right = true) (hd' : hasC x.2 d = false) (he' : hasC y.2 e = false) : appI x.1 o d = appI y.1 o e := by
  have hx : x.1.right 5 = true := (right_iff h.okx.ord).2 h.okx.leaf
  have hy : y.1.right 5 = true := (right_iff h.oky.ord).2 h.oky.leaf
  have hno : ∀ {z : Kn} {c : Dt}, KOk z → hasC z.2 c = false → c ∉ z.1.dots := fun {z c} hz hc hm => by
    obtain ⟨p, e, h1, rfl⟩ := (mem_dots _ _).1 hm
    rw [hz.has _ h1] at hc; cases hc
  unfold appI
  rw [hx, hy, chk_mk' hx hd (hno h.okx hd'), chk_mk' hy he (hno h.oky he'), h.full o]
theorem aft_lvs {x : Kn} (hx : KOk x) {o : Opr} {d : Dt} (h : appI x.1 o d = 0) (hd : hasC x.2 d = false) (p : List ByteArray) (e : En) : ((p, e) : Lf) ∈ (aftK x o d).1.lvs [] ↔ (entryB o.act = true ∧ p = endP o ∧ e = entE o d) ∨ (((p, e) : Lf) ∈ x.1.lvs [] ∧ e.dot ∉ seesD x.1 o) := by
  have hX : KOk (appT x.1 o d, appC x.1 o d) := (app_right h).1
  have hs : ∀ {t : Tr}, t.Ord → (((p, e) : Lf) ∈ t.lvs [] ↔ stE t p e.dot = some e) := fun {t} ho => by rw [stE_some ho]; simp
  rw [hs (aft_ok hx h).ord, hs hx.ord]
  unfold aftK
  rw [jn_st hx hX]
  simp only
  rw [app_st h, app_has h]
  by_cases hz : e.dot = d
  · have hn : stE x.1 p e.dot = none := by
      cases hs : stE x.1 p e.dot with
      | none => rfl
      | some y => have h1 : hasC x.2 e.dot = true := (stE_has hx hs).1; rw [hz, hd] at h1; cases h1
    rw [hn, hz, hd]
    by_cases h1 : entryB o.act = true ∧ p = endP o
    · rw [if_pos ⟨h1.1, h1.2, rfl⟩]
      simp [jnO, h1.1, h1.2, eq_comm]
    · rw [if_neg (fun q => h1 ⟨q.1, q.2.1⟩)]
      simp only [jnO]
      exact ⟨fun q => (by cases q), fun q => by rcases q with ⟨a, b, _⟩ | ⟨a, _⟩; exact absurd ⟨a, b⟩ h1; cases a⟩
  · rw [if_neg (fun q => hz q.2.2)]
    have hne : e ≠ entE o d := fun q => hz (by rw [q]; rfl)
    cases hs : stE x.1 p e.dot with
    | none => simp [jnO, hne]
    | some y => by_cases h1 : e.dot ∈ seesD x.1 o <;> simp [jnO, h1, hz, hne]
theorem aft_has' {x : Kn} (hx : KOk x) {o : Opr} {d : Dt} (h : appI x.1 o d = 0) (z : Dt) : hasC (aftK x o d).2 z = true ↔ hasC x.2 z = true ∨ z = d := by
  have hX : KOk (appT x.1 o d, appC x.1 o d) := (app_right h).1
  unfold aftK
  rw [jn_has hx hX]
  simp only
  rw [app_has h, Bool.or_eq_true, decide_eq_true_eq]
  constructor
  · rintro (h1 | h1 | h1)
    · exact .inl h1
    · exact .inr h1
    · obtain ⟨q, e, h2, rfl⟩ := sees_at hx.ord h1
      exact .inl (hx.has _ h2)
  · rintro (h1 | h1)
    · exact .inl h1
    · exact .inr (.inl h1)
theorem RnK.step {f : Dt → Dt} {x y : Kn} (h : RnK f x y) {o : Opr} {d : Dt} (ha : appI x.1 o d = 0) (hb : appI y.1 o (f d) = 0) (hd : hasC x.2 d = false) (he : hasC y.2 (f d) = false) : RnK f (aftK x o d) (aftK y o (f d)) := by
  refine ⟨aft_ok h.okx ha, aft_ok h.oky hb, fun p z => ?_, fun a b h1 h2 h3 => ?_, fun z => ?_⟩
  · rw [aft_lvs h.oky hb he]
    constructor
    · rintro (⟨h1, h2, rfl⟩ | ⟨h1, h2⟩)
      · exact ⟨entE o d, (aft_lvs h.okx ha hd _ _).2 (.inl ⟨h1, h2, rfl⟩), rfl⟩
      · obtain ⟨e, h3, rfl⟩ := (h.lf _ _).1 h1
        exact ⟨e, (aft_lvs h.okx ha hd _ _).2 (.inr ⟨h3, fun h4 => h2 ((h.sees (h.okx.has _ h3)).2 h4)⟩), rfl⟩
    · rintro ⟨e, h1, rfl⟩
      rcases (aft_lvs h.okx ha hd _ _).1 h1 with ⟨h2, h3, rfl⟩ | ⟨h2, h3⟩
      · exact .inl ⟨h2, h3, rfl⟩
      · exact .inr ⟨(h.lf _ _).2 ⟨e, h2, rfl⟩, fun h4 => h3 ((h.sees (h.okx.has _ h2)).1 h4)⟩
  · have hk : ∀ z, hasC x.2 z = true → f z ≠ f d := fun z hz e => by
      have := (h.ctx (f d)).2 ⟨z, hz, e⟩
      rw [he] at this; cases this
    rw [aft_has' h.okx ha] at h1 h2
    rcases h1 with h1 | rfl <;> rcases h2 with h2 | rfl
    · exact h.inj _ _ h1 h2 h3
    · exact absurd h3 (hk _ h1)
    · exact absurd h3.symm (hk _ h2)
    · rfl
  · rw [aft_has' h.oky hb, h.ctx]
    constructor
    · rintro (⟨e, h1, h2⟩ | rfl)
      · exact ⟨e, (aft_has' h.okx ha _).2 (.inl h1), h2⟩
      · exact ⟨d, (aft_has' h.okx ha _).2 (.inr rfl), rfl⟩
    · rintro ⟨e, h1, h2⟩
      rcases (aft_has' h.okx ha _).1 h1 with h1 | rfl
      · exact .inl ⟨e, h1, h2⟩
      · exact .inr h2.symm
theorem RnK.read {f : Dt → Dt} {x y : Kn} (h : RnK f x y) (p : List ByteArray) (hz : x.1.sz ≤ 100) : readI x.1 p = readI y.1 p ∧ readV x.1 p = readV y.1 p := by
  have hx : x.1.right 5 = true := (right_iff h.okx.ord).2 h.okx.leaf
  have hy : y.1.right 5 = true := (right_iff h.oky.ord).2 h.oky.leaf
  have hI : readI x.1 p = readI y.1 p := by unfold readI; rw [hx, hy]
  refine ⟨hI, ?_⟩
  have h1 := getK_szle x.1 p
  have h2 := es_sz (getK x.1 p)
  unfold readV
  rw [hI, view_ren (h.lf.get h.okx.ord h.oky.ord p) (getK_right hx p) (getK_right hy p) (h.dotEs p) (by omega)]
end Go.Proofs.YtlapdmgjfdelnaaGreat

namespace Go.Proofs.YtlapdmgjfdelnaaGreat
open Go.RowKit
set_option maxRecDepth 100000

/-- One more change, named by the next name: how many, what it makes of all, and all that was made, joined. -/
def stpN (nm : Nat → Dt) (s : Nat × Kn × Kn) (o : Opr) : Nat × Kn × Kn := (s.1 + 1, aftK s.2.1 o (nm s.1), jn s.2.2 (appT s.2.1.1 o (nm s.1), appC s.2.1.1 o (nm s.1)))
def chS (nm : Nat → Dt) (g : Kn) (ops : List Opr) : Nat × Kn × Kn := ops.foldl (stpN nm) (0, g, kn0)
/-- Each change can be made. -/
def okTx (nm : Nat → Dt) (g : Kn) (ops : List Opr) : Prop := ∀ (k : Nat) o, ops[k]? = some o → appI (chS nm g (ops.take k)).2.1.1 o (nm k) = 0
theorem app_len {t : Tr} {o : Opr} {d : Dt} (h : appI t o d = 0) : (appC t o d).length ≤ 4 * (t.sz + 2) := by
  have e1 : appC t o d = ctxOf (d :: seesD t o) := by unfold appC; rw [if_pos h]
  have e2 : (ctxOf (d :: seesD t o)).length ≤ 4 * ((d :: seesD t o).length + 1) := ctxOfK_len _ 4
  have e3 := sees_len t o
  rw [e1]
  simp only [List.length_cons] at e2
  omega
structure ChI (nm : Nat → Dt) (g : Kn) (k : Nat) (s : Nat × Kn × Kn) : Prop where
  now : KOk s.2.1
  out : KOk s.2.2
  has : ∀ z, hasC s.2.1.2 z = true ↔ hasC g.2 z = true ∨ ∃ i, i < k ∧ z = nm i
  eq : jn g s.2.2 = s.2.1
  z1 : s.2.1.1.sz ≤ g.1.sz + 5 * k
  z2 : s.2.2.1.sz ≤ 5 * k
  l1 : s.2.1.2.length ≤ g.2.length + 500 * k
  l2 : s.2.2.2.length ≤ 500 * k
/-- The names within. -/
def txD (k : Nat) : Dt := ⟨0, 1099511627765 + (k : Int)⟩
def nmF (nm : Nat → Dt) (d : Dt) : Dt := if d.dc = 0 ∧ 1099511627765 ≤ d.n ∧ d.n ≤ 1099511627776 then nm (d.n - 1099511627765).toNat else d
end Go.Proofs.YtlapdmgjfdelnaaGreat

namespace Go.Proofs.YtlapdmgjfdelnaaGreat
open Go.RowKit
set_option maxRecDepth 100000

/-- The call hands back a view, whose list lies in rows of its own, and an error's number. -/
def RetVE (w : World) (v : Vw) (k : Int) (e : Ending) (w' : World) : Prop :=
  ∃ vl, e = .returned (.tuple #[.agg #[.int .i64 v.kind, .bool v.on, .int .i64 v.n, vl], .int .i64 k]) ∧ SlA w' (fun b => w.heap.size ≤ b ∧ b < w'.heap.size) 1 StE vl v.l ∧ Below w.heap.size w w'
theorem box4 {w : World} {g : Nat} {x y z u : Value} {e : TypeId} (hbx : w.heap[g]? = some (.cells #[x, y, z, u] e (0, 0))) (a b c d : Value) :
    ((((w.setCell ⟨g, 0, none⟩ a).setCell ⟨g, 1, none⟩ b).setCell ⟨g, 2, none⟩ c).setCell ⟨g, 3, none⟩ d).cell? ⟨g, 0, none⟩ = some a ∧ ((((w.setCell ⟨g, 0, none⟩ a).setCell ⟨g, 1, none⟩ b).setCell ⟨g, 2, none⟩ c).setCell ⟨g, 3, none⟩ d).cell? ⟨g, 1, none⟩ = some b ∧ ((((w.setCell ⟨g, 0, none⟩ a).setCell ⟨g, 1, none⟩ b).setCell ⟨g, 2, none⟩ c).setCell ⟨g, 3, none⟩ d).cell? ⟨g, 2, none⟩ = some c ∧ ((((w.setCell ⟨g, 0, none⟩ a).setCell ⟨g, 1, none⟩ b).setCell ⟨g, 2, none⟩ c).setCell ⟨g, 3, none⟩ d).cell? ⟨g, 3, none⟩ = some d ∧
      (∀ k, k ≠ g → ((((w.setCell ⟨g, 0, none⟩ a).setCell ⟨g, 1, none⟩ b).setCell ⟨g, 2, none⟩ c).setCell ⟨g, 3, none⟩ d).heap[k]? = w.heap[k]?) ∧ ((((w.setCell ⟨g, 0, none⟩ a).setCell ⟨g, 1, none⟩ b).setCell ⟨g, 2, none⟩ c).setCell ⟨g, 3, none⟩ d).heap.size = w.heap.size := by
  have hW := cells_set (i := 3) (cells_set (i := 2) (cells_set (i := 1) (cells_set (i := 0) hbx a) b) c) d
  exact ⟨(cell_cells (i := 0) hW).trans (by simp), (cell_cells (i := 1) hW).trans (by simp), (cell_cells (i := 2) hW).trans (by simp), (cell_cells (i := 3) hW).trans (by simp),
    fun k hk => (Below.heap_setCell _ _ _ _ hk).trans ((Below.heap_setCell _ _ _ _ hk).trans ((Below.heap_setCell _ _ _ _ hk).trans (Below.heap_setCell _ _ _ _ hk))), by simp [World.setCell]⟩
theorem below_box4 {B : Nat} {w0 w : World} {g : Nat} (h : Below B w0 w) (hg : B ≤ g) (a b c d : Value) : Below B w0 ((((w.setCell ⟨g, 0, none⟩ a).setCell ⟨g, 1, none⟩ b).setCell ⟨g, 2, none⟩ c).setCell ⟨g, 3, none⟩ d) :=
  (((h.setCell (p := ⟨g, 0, none⟩) hg a).setCell (p := ⟨g, 1, none⟩) hg b).setCell (p := ⟨g, 2, none⟩) hg c).setCell (p := ⟨g, 3, none⟩) hg d
theorem vals_len (u : Tr) : (valsOf u).length ≤ u.es.length := by
  unfold valsOf
  have h1 : ∀ l : List ByteArray, (cmpL (srtL l)).length ≤ l.length := fun l => by
    rw [sd_eq]
    obtain ⟨h1, h2⟩ := sdL_spec l
    exact List.Nodup.length_le_of_subset (nodup_lt h1) fun x hx => (h2 x).1 hx
  refine Nat.le_trans (h1 _) ?_
  split
  · unfold txtL; simp
  · simp
theorem keys_len (u : Tr) : (keysOf u).length ≤ u.ks.length := by unfold keysOf; split <;> simp
theorem read_err {t : Tr} {p : List ByteArray} (h : readI t p ≠ 0) : readV t p = vw0 := by unfold readV; rw [if_neg h]
set_option maxHeartbeats 8000000 in
theorem opRead_any (t : Tr) (path : List ByteArray) (ve vk vp : Value) (w : World) (h : t.rd w w.heap.size ve vk) (hp : SlP w w.heap.size 1 StE vp path) (hN : t.sz ≤ 4000) :
    Calls Tryz.prog 40 #[.agg #[ve, vk], vp] w (RetVE w (readV t path) (readI t path)) := by
  have HC : Hid (∀ w', Below w.heap.size w w' → t.rd w' w'.heap.size ve vk) := fun w' hb => rd_below hb hb.size _ _ _ h
  have HD : Hid (∀ w', Below w.heap.size w w' → SlP w' w'.heap.size 1 StE vp path) := fun w' hb => hp.imp hb hb.size fun _ _ _ h => h
  obtain ⟨A3, n3, A4, n4, rfl, rfl⟩ := rd_shape h
  obtain ⟨A5, n5, rfl, p1, p2, p3⟩ := hp
  unfold Big at p2
  have hb0 := ((Below.refl w.heap.size w).alloc (Nat.le_refl _) (.cells #[.slice A3 t.es.length n3, .slice A4 t.ks.length n4] 25)).alloc (by simp) (.cells #[.int .i64 0, .bool false, .int .i64 0, .slice none 0 0] 72)
  have HX : Hid (∀ W, Below (w.heap.size + 2) ((w.alloc (.cells #[.slice A3 t.es.length n3, .slice A4 t.ks.length n4] 25)).alloc (.cells #[.int .i64 0, .bool false, .int .i64 0, .slice none 0 0] 72)) W →
      (Below w.heap.size w W ∧ t.rd W W.heap.size (.slice A3 t.es.length n3) (.slice A4 t.ks.length n4) ∧ SlP W W.heap.size 1 StE (.slice A5 path.length n5) path ∧ W.cell? ⟨w.heap.size, 0, none⟩ = some (.slice A3 t.es.length n3) ∧ W.cell? ⟨w.heap.size, 1, none⟩ = some (.slice A4 t.ks.length n4) ∧ W.heap[w.heap.size + 1]? = some (.cells #[.int .i64 0, .bool false, .int .i64 0, .slice none 0 0] 72 (0, 0)))) := fun W hW => by
    have g0 : W.heap[w.heap.size]? = some (.cells #[.slice A3 t.es.length n3, .slice A4 t.ks.length n4] 25 (0, 0)) := (hW.block _ (by omega)).trans ((heap_old (by simp)).trans (heap_new rfl))
    have g1 : W.heap[w.heap.size + 1]? = some (.cells #[.int .i64 0, .bool false, .int .i64 0, .slice none 0 0] 72 (0, 0)) := (hW.block _ (by omega)).trans (heap_new (by simp))
    have hB := hb0.trans (hW.mono (by omega))
    exact ⟨hB, HC.out _ hB, HD.out _ hB, cell_cells (i := 0) g0, cell_cells (i := 1) g0, g1⟩
  clear h
  go_enter Tryz.func40, Tryz.ntmps40
  go_wp2_with fail
  obtain ⟨hB, rt, rp, c0, c1, g1⟩ := HX.out _ (Below.refl _ _)
  refine (tRight_any t _ _ _ rt).mono ?_
  cases ht : t.right 5
  · rintro e w1 ⟨rfl, hb1⟩
    have HBN := hid (hb1.mono (show w.heap.size + 2 ≤ _ by simp))
    have hRI : readI t path = 1 := by unfold readI; rw [ht]; rfl
    have HRI := hid hRI
    have HRV := hid (read_err (t := t) (p := path) (by rw [hRI]; decide))
    clear hB rt rp c0 c1 g1 ht hb1 hRI
    have hGZ := (HX.out _ HBN.out).2.2.2.2.2
    have hBz := (HX.out _ HBN.out).1
    have HG := hid hGZ
    have HBZ := hid hBz
    have k0 := cell_cells (i := 0) hGZ
    have k1 := cell_cells (i := 1) hGZ
    have k2 := cell_cells (i := 2) hGZ
    have k3 := cell_cells (i := 3) hGZ
    simp only [List.getElem?_toArray, List.getElem?_cons_zero, List.getElem?_cons_succ] at k0 k1 k2 k3
    have z0 := cells_frz (i := 0) hGZ
    have z1 := cells_frz (i := 1) hGZ
    have z2 := cells_frz (i := 2) hGZ
    have z3 := cells_frz (i := 3) hGZ
    clear hGZ hBz
    go_wp2_with fail
    obtain ⟨r0, r1, r2, r3, hK, hS⟩ := box4 HG.out (.int .i64 0) (.bool false) (.int .i64 0) (.slice none 0 0)
    have hBW := below_box4 HBZ.out (show w.heap.size ≤ w.heap.size + 1 by omega) (.int .i64 0) (.bool false) (.int .i64 0) (.slice none 0 0)
    exact bodyPost_ret (v := .tuple #[.agg #[.int .i64 0, .bool false, .int .i64 0, .slice none 0 0], .int .i64 1]) (by simp [results, Tryz.results40, go_sem, r0, r1, r2, r3] <;> rfl) rfl ⟨_, by rw [HRI.out, HRV.out]; rfl, by rw [HRV.out]; exact SlA.nil, hBW⟩
  rintro e w1 ⟨rfl, hb1⟩
  have HBN := hid (hb1.mono (show w.heap.size + 2 ≤ _ by simp))
  clear hB rt rp c0 c1 g1 hb1
  obtain ⟨hB, rt, rp, c0, c1, g1⟩ := HX.out _ HBN.out
  have HT := hid ht
  clear ht
  go_wp2_with fail
  refine (checkPath_any path _ _ rp).mono ?_
  by_cases hi : pathI path = 0
  case neg =>
    rintro e w2 ⟨rfl, hb2⟩
    have HBN2 := hid (HBN.out.trans (hb2.mono (by have := HBN.out.size; simpa using this)))
    have hne : (pathI path == 0) = false := by simpa using hi
    have hRI : readI t path = pathI path := by unfold readI; rw [HT.out]; rfl
    have HRI := hid hRI
    have HRV := hid (read_err (t := t) (p := path) (by rw [hRI]; exact hi))
    clear hB rt rp c0 c1 g1 hb2 hi HBN hRI
    have HBN := HBN2
    have hGZ := (HX.out _ HBN.out).2.2.2.2.2
    have hBz := (HX.out _ HBN.out).1
    have HG := hid hGZ
    have HBZ := hid hBz
    have k0 := cell_cells (i := 0) hGZ
    have k1 := cell_cells (i := 1) hGZ
    have k2 := cell_cells (i := 2) hGZ
    have k3 := cell_cells (i := 3) hGZ
    simp only [List.getElem?_toArray, List.getElem?_cons_zero, List.getElem?_cons_succ] at k0 k1 k2 k3
    have z0 := cells_frz (i := 0) hGZ
    have z1 := cells_frz (i := 1) hGZ
    have z2 := cells_frz (i := 2) hGZ
    have z3 := cells_frz (i := 3) hGZ
    clear hGZ hBz
    go_wp2_with fail
    obtain ⟨r0, r1, r2, r3, hK, hS⟩ := box4 HG.out (.int .i64 0) (.bool false) (.int .i64 0) (.slice none 0 0)
    have hBW := below_box4 HBZ.out (show w.heap.size ≤ w.heap.size + 1 by omega) (.int .i64 0) (.bool false) (.int .i64 0) (.slice none 0 0)
    exact bodyPost_ret (v := .tuple #[.agg #[.int .i64 0, .bool false, .int .i64 0, .slice none 0 0], .int .i64 (pathI path)]) (by simp [results, Tryz.results40, go_sem, r0, r1, r2, r3] <;> rfl) rfl ⟨_, by rw [HRI.out, HRV.out]; rfl, by rw [HRV.out]; exact SlA.nil, hBW⟩
  rw [hi]
  rintro e w2 ⟨rfl, hb2⟩
  have HBN2 := hid (HBN.out.trans (hb2.mono (by have := HBN.out.size; simpa using this)))
  have HI := hid hi
  obtain ⟨hk1, hk2⟩ := path_kind hi
  have hpl := (path_ok hi).1
  clear hB rt rp c0 c1 g1 hb2 hi HBN
  have HBN := HBN2
  clear HBN2
  obtain ⟨hB, rt, rp, c0, c1, g1⟩ := HX.out _ HBN.out
  obtain ⟨u, HU⟩ : ∃ u, Hid (tgetT t path = u) := ⟨_, rfl⟩
  have HUK : Hid (getK t path = u) := (tgetT_eq HT.out path).symm.trans HU.out
  have hus : u.sz ≤ 4000 := by rw [← HUK.out]; exact Nat.le_trans (getK_szle t path) hN
  have hue := es_sz u
  go_wp2_with fail
  refine (tget_any t path _ _ _ _ rt rp (by omega)).mono ?_
  rw [HU.out]
  rintro e w3 ⟨ve3, vk3, rfl, hrd3, hb3⟩
  obtain ⟨Ar, nr, Br, mr, rfl, rfl⟩ := rda_shape hrd3
  have HBN2 := hid (HBN.out.trans (hb3.mono (by have := HBN.out.size; simpa using this)))
  have hs3 := HBN2.out.size
  simp only [World.size_alloc] at hs3
  have HR3 := hid hrd3
  obtain ⟨bq, offq, hA5, hbq, hcq⟩ := p3 (by rintro rfl; simp at hpl)
  subst hA5
  obtain ⟨cs, ⟨rfl, hkok⟩, _, hku⟩ := hcq (path.length - 1) _ (last_at hpl)
  have HY : Hid (∀ W, Below (w3.heap.size + 1) (w3.alloc (.cells #[.slice Ar u.es.length nr, .slice Br u.ks.length mr] 25)) W → (Below (w.heap.size + 2) ((w.alloc (.cells #[.slice A3 t.es.length n3, .slice A4 t.ks.length n4] 25)).alloc (.cells #[.int .i64 0, .bool false, .int .i64 0, .slice none 0 0] 72)) W ∧ u.rd W W.heap.size (.slice Ar u.es.length nr) (.slice Br u.ks.length mr) ∧ W.cell? ⟨w3.heap.size, 0, none⟩ = some (.slice Ar u.es.length nr) ∧ W.cell? ⟨w3.heap.size, 1, none⟩ = some (.slice Br u.ks.length mr) ∧ W.cell? ⟨bq, offq + (path.length - 1), none⟩ = some (.string (lastK path)))) := fun W hW => by
    have g := (hW.block w3.heap.size (by omega)).trans (heap_new rfl)
    have hB3 := ((Below.refl _ w3).alloc (Nat.le_refl _) _).trans (hW.mono (by omega))
    have hBX := HBN2.out.trans (hB3.mono (by omega))
    have hBW := (HX.out W hBX).1
    exact ⟨hBX, rda_rd HR3.out (fun b hb => hb.2) hB3, cell_cells (i := 0) g, cell_cells (i := 1) g, (hBW.cell (p := ⟨bq, offq + (path.length - 1), none⟩) hbq).trans (by simpa using hku 0 _ rfl)⟩
  clear hB rt rp c0 c1 g1 hb3 hrd3 HBN hku hcq p3
  obtain ⟨hBy, ru, y0, y1, y2⟩ := HY.out _ (Below.refl _ _)
  go_wp2_with fail
  refine (opKind_any (lastK path) _).mono ?_
  rcases (show kindB (lastK path) = 1 ∨ kindB (lastK path) = 2 ∨ kindB (lastK path) = 3 ∨ kindB (lastK path) = 4 ∨ kindB (lastK path) = 5 by omega) with hk | hk | hk | hk | hk
  · rw [hk]
    rintro e w4 ⟨rfl, hb4⟩
    have HBY := hid (hb4.mono (show w3.heap.size + 1 ≤ _ by simp))
    have hs4 := HBY.out.size
    simp only [World.size_alloc] at hs4
    have HV : Hid (∀ W, Below (w4.heap.size + 1) (w4.alloc (.cells #[.int .i64 1, .bool false, .int .i64 0, .slice none 0 0] 72)) W → (Below (w3.heap.size + 1) (w3.alloc (.cells #[.slice Ar u.es.length nr, .slice Br u.ks.length mr] 25)) W ∧ W.heap[w4.heap.size]? = some (.cells #[.int .i64 1, .bool false, .int .i64 0, .slice none 0 0] 72 (0, 0)))) := fun W hW =>
      ⟨HBY.out.trans ((((Below.refl _ w4).alloc (Nat.le_refl _) _).trans (hW.mono (by omega))).mono (by omega)), (hW.block w4.heap.size (by omega)).trans (heap_new rfl)⟩
    have HVW : Hid (readV t path = viewK 1 u ∧ readI t path = 0) := by
      have h0 : readI t path = 0 := by unfold readI; rw [HT.out, HI.out]; rfl
      exact ⟨by unfold readV; rw [if_pos h0, hk, HUK.out], h0⟩
    clear hBy ru y0 y1 y2 hb4 hk
    obtain ⟨hBv, gv⟩ := HV.out _ (Below.refl _ _)
    obtain ⟨hBy, ru, y0, y1, y2⟩ := HY.out _ hBv
    have v0 := cell_cells (i := 0) gv
    simp only [List.getElem?_toArray, List.getElem?_cons_zero] at v0
    go_wp2_with fail
    refine (fon_any u _ _ _ ru).mono ?_
    rintro e w5 ⟨rfl, hb5⟩
    have HBV := hid (hb5.mono (show w4.heap.size + 1 ≤ _ by simp))
    have hs5 := HBV.out.size
    simp only [World.size_alloc] at hs5
    clear hBv gv hBy ru y0 y1 y2 v0 hb5
    obtain ⟨hBv, gv⟩ := HV.out _ HBV.out
    obtain ⟨hBx, _, _, _, _⟩ := HY.out _ hBv
    obtain ⟨hBW, _, _, _, _, gz⟩ := HX.out _ hBx
    have HGV := hid gv
    have HGZ := hid gz
    have HBW := hid hBW
    have v0 := cell_cells (i := 0) gv
    have v1 := cell_cells (i := 1) gv
    have v2 := cell_cells (i := 2) gv
    have v3 := cell_cells (i := 3) gv
    simp only [List.getElem?_toArray, List.getElem?_cons_zero, List.getElem?_cons_succ] at v0 v1 v2 v3
    have u0 := cells_frz (i := 0) gv
    have u1 := cells_frz (i := 1) gv
    have u2 := cells_frz (i := 2) gv
    have u3 := cells_frz (i := 3) gv
    have k0 := cell_cells (i := 0) gz
    have k1 := cell_cells (i := 1) gz
    have k2 := cell_cells (i := 2) gz
    have k3 := cell_cells (i := 3) gz
    simp only [List.getElem?_toArray, List.getElem?_cons_zero, List.getElem?_cons_succ] at k0 k1 k2 k3
    have z0 := cells_frz (i := 0) gz
    have z1 := cells_frz (i := 1) gz
    have z2 := cells_frz (i := 2) gz
    have z3 := cells_frz (i := 3) gz
    have hne1 : w4.heap.size ≠ w.heap.size + 1 := by omega
    have hne2 : w.heap.size + 1 ≠ w4.heap.size := by omega
    clear hBv gv hBx hBW gz
    go_wp2_with fail
    have HG5 : (w5.setCell ⟨w4.heap.size, 1, none⟩ (.bool (onB u))).heap[w.heap.size + 1]? = some (.cells #[.int .i64 0, .bool false, .int .i64 0, .slice none 0 0] 72 (0, 0)) := (Below.heap_setCell _ _ _ _ (by simp; omega)).trans HGZ.out
    have hS5 : (w5.setCell ⟨w4.heap.size, 1, none⟩ (.bool (onB u))).heap.size = w5.heap.size := by simp [World.setCell]
    obtain ⟨r0, r1, r2, r3, hK, hS⟩ := box4 HG5 (.int .i64 1) (.bool (onB u)) (.int .i64 0) (.slice none 0 0)
    have hBB := below_box4 (HBW.out.setCell (p := ⟨w4.heap.size, 1, none⟩) (by simp; omega) (.bool (onB u))) (show w.heap.size ≤ w.heap.size + 1 by omega) (.int .i64 1) (.bool (onB u)) (.int .i64 0) (.slice none 0 0)
    exact bodyPost_ret (v := .tuple #[.agg #[.int .i64 1, .bool (onB u), .int .i64 0, .slice none 0 0], .int .i64 0]) (by simp [results, Tryz.results40, go_sem, r0, r1, r2, r3] <;> rfl) rfl ⟨_, by rw [HVW.out.1, HVW.out.2]; rfl, by rw [HVW.out.1]; exact SlA.nil, hBB⟩
  · rw [hk]
    rintro e w4 ⟨rfl, hb4⟩
    have HBY := hid (hb4.mono (show w3.heap.size + 1 ≤ _ by simp))
    have hs4 := HBY.out.size
    simp only [World.size_alloc] at hs4
    have HV : Hid (∀ W, Below (w4.heap.size + 1) (w4.alloc (.cells #[.int .i64 2, .bool false, .int .i64 0, .slice none 0 0] 72)) W → (Below (w3.heap.size + 1) (w3.alloc (.cells #[.slice Ar u.es.length nr, .slice Br u.ks.length mr] 25)) W ∧ W.heap[w4.heap.size]? = some (.cells #[.int .i64 2, .bool false, .int .i64 0, .slice none 0 0] 72 (0, 0)))) := fun W hW =>
      ⟨HBY.out.trans ((((Below.refl _ w4).alloc (Nat.le_refl _) _).trans (hW.mono (by omega))).mono (by omega)), (hW.block w4.heap.size (by omega)).trans (heap_new rfl)⟩
    have HVW : Hid (readV t path = viewK 2 u ∧ readI t path = 0) := by
      have h0 : readI t path = 0 := by unfold readI; rw [HT.out, HI.out]; rfl
      exact ⟨by unfold readV; rw [if_pos h0, hk, HUK.out], h0⟩
    clear hBy ru y0 y1 y2 hb4 hk
    obtain ⟨hBv, gv⟩ := HV.out _ (Below.refl _ _)
    obtain ⟨hBy, ru, y0, y1, y2⟩ := HY.out _ hBv
    have v0 := cell_cells (i := 0) gv
    simp only [List.getElem?_toArray, List.getElem?_cons_zero] at v0
    go_wp2_with fail
    refine (selems_any u _ _ _ ru (by omega)).mono ?_
    rintro e w5 ⟨vL, rfl, ho5, hb5⟩
    obtain ⟨Av, nv, rfl⟩ := ho5.shape
    have HSL := hid (OwnP.sla ho5 (by unfold Big; have := elemsOf_len u; omega))
    have hbs5 : w.heap.size + 2 ≤ w5.heap.size := by have := hb5.size; simp at this; omega
    simp only [World.size_alloc] at HSL
    clear ho5
    have HBV := hid (hb5.mono (show w4.heap.size + 1 ≤ _ by simp))
    have hs5 := HBV.out.size
    simp only [World.size_alloc] at hs5
    clear hBv gv hBy ru y0 y1 y2 v0 hb5
    obtain ⟨hBv, gv⟩ := HV.out _ HBV.out
    obtain ⟨hBx, _, _, _, _⟩ := HY.out _ hBv
    obtain ⟨hBW, _, _, _, _, gz⟩ := HX.out _ hBx
    have HGV := hid gv
    have HGZ := hid gz
    have HBW := hid hBW
    have v0 := cell_cells (i := 0) gv
    have v1 := cell_cells (i := 1) gv
    have v2 := cell_cells (i := 2) gv
    have v3 := cell_cells (i := 3) gv
    simp only [List.getElem?_toArray, List.getElem?_cons_zero, List.getElem?_cons_succ] at v0 v1 v2 v3
    have u0 := cells_frz (i := 0) gv
    have u1 := cells_frz (i := 1) gv
    have u2 := cells_frz (i := 2) gv
    have u3 := cells_frz (i := 3) gv
    have k0 := cell_cells (i := 0) gz
    have k1 := cell_cells (i := 1) gz
    have k2 := cell_cells (i := 2) gz
    have k3 := cell_cells (i := 3) gz
    simp only [List.getElem?_toArray, List.getElem?_cons_zero, List.getElem?_cons_succ] at k0 k1 k2 k3
    have z0 := cells_frz (i := 0) gz
    have z1 := cells_frz (i := 1) gz
    have z2 := cells_frz (i := 2) gz
    have z3 := cells_frz (i := 3) gz
    have hne1 : w4.heap.size ≠ w.heap.size + 1 := by omega
    have hne2 : w.heap.size + 1 ≠ w4.heap.size := by omega
    clear hBv gv hBx hBW gz
    go_wp2_with fail
    have HG5 : (w5.setCell ⟨w4.heap.size, 3, none⟩ (.slice Av (elemsOf u).length nv)).heap[w.heap.size + 1]? = some (.cells #[.int .i64 0, .bool false, .int .i64 0, .slice none 0 0] 72 (0, 0)) := (Below.heap_setCell _ _ _ _ (by simp; omega)).trans HGZ.out
    have hS5 : (w5.setCell ⟨w4.heap.size, 3, none⟩ (.slice Av (elemsOf u).length nv)).heap.size = w5.heap.size := by simp [World.setCell]
    obtain ⟨r0, r1, r2, r3, hK, hS⟩ := box4 HG5 (.int .i64 2) (.bool false) (.int .i64 0) (.slice Av (elemsOf u).length nv)
    have hBB := below_box4 (HBW.out.setCell (p := ⟨w4.heap.size, 3, none⟩) (by simp; omega) (.slice Av (elemsOf u).length nv)) (show w.heap.size ≤ w.heap.size + 1 by omega) (.int .i64 2) (.bool false) (.int .i64 0) (.slice Av (elemsOf u).length nv)
    exact bodyPost_ret (v := .tuple #[.agg #[.int .i64 2, .bool false, .int .i64 0, .slice Av (elemsOf u).length nv], .int .i64 0]) (by simp [results, Tryz.results40, go_sem, r0, r1, r2, r3] <;> rfl) rfl ⟨_, by rw [HVW.out.1, HVW.out.2]; rfl, by
      rw [HVW.out.1]
      exact HSL.out.up (fun b hb => (hK b (by have := hb.1; omega)).trans (Below.heap_setCell _ _ _ _ (by have := hb.1; simp; omega))) (fun b hb => ⟨by have := hb.1; omega, by rw [hS, hS5]; exact hb.2.1⟩) (fun _ _ _ h => h), hBB⟩
  · rw [hk]
    rintro e w4 ⟨rfl, hb4⟩
    have HBY := hid (hb4.mono (show w3.heap.size + 1 ≤ _ by simp))
    have hs4 := HBY.out.size
    simp only [World.size_alloc] at hs4
    have HV : Hid (∀ W, Below (w4.heap.size + 1) (w4.alloc (.cells #[.int .i64 3, .bool false, .int .i64 0, .slice none 0 0] 72)) W → (Below (w3.heap.size + 1) (w3.alloc (.cells #[.slice Ar u.es.length nr, .slice Br u.ks.length mr] 25)) W ∧ W.heap[w4.heap.size]? = some (.cells #[.int .i64 3, .bool false, .int .i64 0, .slice none 0 0] 72 (0, 0)))) := fun W hW =>
      ⟨HBY.out.trans ((((Below.refl _ w4).alloc (Nat.le_refl _) _).trans (hW.mono (by omega))).mono (by omega)), (hW.block w4.heap.size (by omega)).trans (heap_new rfl)⟩
    have HVW : Hid (readV t path = viewK 3 u ∧ readI t path = 0) := by
      have h0 : readI t path = 0 := by unfold readI; rw [HT.out, HI.out]; rfl
      exact ⟨by unfold readV; rw [if_pos h0, hk, HUK.out], h0⟩
    clear hBy ru y0 y1 y2 hb4 hk
    obtain ⟨hBv, gv⟩ := HV.out _ (Below.refl _ _)
    obtain ⟨hBy, ru, y0, y1, y2⟩ := HY.out _ hBv
    have v0 := cell_cells (i := 0) gv
    simp only [List.getElem?_toArray, List.getElem?_cons_zero] at v0
    go_wp2_with fail
    refine (cvalue_any u _ _ _ ru).mono ?_
    rintro e w5 ⟨rfl, hb5⟩
    have HBV := hid (hb5.mono (show w4.heap.size + 1 ≤ _ by simp))
    have hs5 := HBV.out.size
    simp only [World.size_alloc] at hs5
    clear hBv gv hBy ru y0 y1 y2 v0 hb5
    obtain ⟨hBv, gv⟩ := HV.out _ HBV.out
    obtain ⟨hBx, _, _, _, _⟩ := HY.out _ hBv
    obtain ⟨hBW, _, _, _, _, gz⟩ := HX.out _ hBx
    have HGV := hid gv
    have HGZ := hid gz
    have HBW := hid hBW
    have v0 := cell_cells (i := 0) gv
    have v1 := cell_cells (i := 1) gv
    have v2 := cell_cells (i := 2) gv
    have v3 := cell_cells (i := 3) gv
    simp only [List.getElem?_toArray, List.getElem?_cons_zero, List.getElem?_cons_succ] at v0 v1 v2 v3
    have u0 := cells_frz (i := 0) gv
    have u1 := cells_frz (i := 1) gv
    have u2 := cells_frz (i := 2) gv
    have u3 := cells_frz (i := 3) gv
    have k0 := cell_cells (i := 0) gz
    have k1 := cell_cells (i := 1) gz
    have k2 := cell_cells (i := 2) gz
    have k3 := cell_cells (i := 3) gz
    simp only [List.getElem?_toArray, List.getElem?_cons_zero, List.getElem?_cons_succ] at k0 k1 k2 k3
    have z0 := cells_frz (i := 0) gz
    have z1 := cells_frz (i := 1) gz
    have z2 := cells_frz (i := 2) gz
    have z3 := cells_frz (i := 3) gz
    have hne1 : w4.heap.size ≠ w.heap.size + 1 := by omega
    have hne2 : w.heap.size + 1 ≠ w4.heap.size := by omega
    clear hBv gv hBx hBW gz
    go_wp2_with fail
    have HG5 : (w5.setCell ⟨w4.heap.size, 2, none⟩ (.int .i64 (valT u))).heap[w.heap.size + 1]? = some (.cells #[.int .i64 0, .bool false, .int .i64 0, .slice none 0 0] 72 (0, 0)) := (Below.heap_setCell _ _ _ _ (by simp; omega)).trans HGZ.out
    have hS5 : (w5.setCell ⟨w4.heap.size, 2, none⟩ (.int .i64 (valT u))).heap.size = w5.heap.size := by simp [World.setCell]
    obtain ⟨r0, r1, r2, r3, hK, hS⟩ := box4 HG5 (.int .i64 3) (.bool false) (.int .i64 (valT u)) (.slice none 0 0)
    have hBB := below_box4 (HBW.out.setCell (p := ⟨w4.heap.size, 2, none⟩) (by simp; omega) (.int .i64 (valT u))) (show w.heap.size ≤ w.heap.size + 1 by omega) (.int .i64 3) (.bool false) (.int .i64 (valT u)) (.slice none 0 0)
    exact bodyPost_ret (v := .tuple #[.agg #[.int .i64 3, .bool false, .int .i64 (valT u), .slice none 0 0], .int .i64 0]) (by simp [results, Tryz.results40, go_sem, r0, r1, r2, r3] <;> rfl) rfl ⟨_, by rw [HVW.out.1, HVW.out.2]; rfl, by rw [HVW.out.1]; exact SlA.nil, hBB⟩
  · rw [hk]
    rintro e w4 ⟨rfl, hb4⟩
    have HBY := hid (hb4.mono (show w3.heap.size + 1 ≤ _ by simp))
    have hs4 := HBY.out.size
    simp only [World.size_alloc] at hs4
    have HV : Hid (∀ W, Below (w4.heap.size + 1) (w4.alloc (.cells #[.int .i64 4, .bool false, .int .i64 0, .slice none 0 0] 72)) W → (Below (w3.heap.size + 1) (w3.alloc (.cells #[.slice Ar u.es.length nr, .slice Br u.ks.length mr] 25)) W ∧ W.heap[w4.heap.size]? = some (.cells #[.int .i64 4, .bool false, .int .i64 0, .slice none 0 0] 72 (0, 0)))) := fun W hW =>
      ⟨HBY.out.trans ((((Below.refl _ w4).alloc (Nat.le_refl _) _).trans (hW.mono (by omega))).mono (by omega)), (hW.block w4.heap.size (by omega)).trans (heap_new rfl)⟩
    have HVW : Hid (readV t path = viewK 4 u ∧ readI t path = 0) := by
      have h0 : readI t path = 0 := by unfold readI; rw [HT.out, HI.out]; rfl
      exact ⟨by unfold readV; rw [if_pos h0, hk, HUK.out], h0⟩
    clear hBy ru y0 y1 y2 hb4 hk
    obtain ⟨hBv, gv⟩ := HV.out _ (Below.refl _ _)
    obtain ⟨hBy, ru, y0, y1, y2⟩ := HY.out _ hBv
    have v0 := cell_cells (i := 0) gv
    simp only [List.getElem?_toArray, List.getElem?_cons_zero] at v0
    go_wp2_with fail
    refine (rvals_any u _ _ _ ru (by omega)).mono ?_
    rintro e w5 ⟨vL, rfl, ho5, hb5⟩
    obtain ⟨Av, nv, rfl⟩ := ho5.shape
    have HSL := hid (OwnP.sla ho5 (by unfold Big; have := vals_len u; omega))
    have hbs5 : w.heap.size + 2 ≤ w5.heap.size := by have := hb5.size; simp at this; omega
    simp only [World.size_alloc] at HSL
    clear ho5
    have HBV := hid (hb5.mono (show w4.heap.size + 1 ≤ _ by simp))
    have hs5 := HBV.out.size
    simp only [World.size_alloc] at hs5
    clear hBv gv hBy ru y0 y1 y2 v0 hb5
    obtain ⟨hBv, gv⟩ := HV.out _ HBV.out
    obtain ⟨hBx, _, _, _, _⟩ := HY.out _ hBv
    obtain ⟨hBW, _, _, _, _, gz⟩ := HX.out _ hBx
    have HGV := hid gv
    have HGZ := hid gz
    have HBW := hid hBW
    have v0 := cell_cells (i := 0) gv
    have v1 := cell_cells (i := 1) gv
    have v2 := cell_cells (i := 2) gv
    have v3 := cell_cells (i := 3) gv
    simp only [List.getElem?_toArray, List.getElem?_cons_zero, List.getElem?_cons_succ] at v0 v1 v2 v3
    have u0 := cells_frz (i := 0) gv
    have u1 := cells_frz (i := 1) gv
    have u2 := cells_frz (i := 2) gv
    have u3 := cells_frz (i := 3) gv
    have k0 := cell_cells (i := 0) gz
    have k1 := cell_cells (i := 1) gz
    have k2 := cell_cells (i := 2) gz
    have k3 := cell_cells (i := 3) gz
    simp only [List.getElem?_toArray, List.getElem?_cons_zero, List.getElem?_cons_succ] at k0 k1 k2 k3
    have z0 := cells_frz (i := 0) gz
    have z1 := cells_frz (i := 1) gz
    have z2 := cells_frz (i := 2) gz
    have z3 := cells_frz (i := 3) gz
    have hne1 : w4.heap.size ≠ w.heap.size + 1 := by omega
    have hne2 : w.heap.size + 1 ≠ w4.heap.size := by omega
    clear hBv gv hBx hBW gz
    go_wp2_with fail
    have HG5 : (w5.setCell ⟨w4.heap.size, 3, none⟩ (.slice Av (valsOf u).length nv)).heap[w.heap.size + 1]? = some (.cells #[.int .i64 0, .bool false, .int .i64 0, .slice none 0 0] 72 (0, 0)) := (Below.heap_setCell _ _ _ _ (by simp; omega)).trans HGZ.out
    have hS5 : (w5.setCell ⟨w4.heap.size, 3, none⟩ (.slice Av (valsOf u).length nv)).heap.size = w5.heap.size := by simp [World.setCell]
    obtain ⟨r0, r1, r2, r3, hK, hS⟩ := box4 HG5 (.int .i64 4) (.bool false) (.int .i64 0) (.slice Av (valsOf u).length nv)
    have hBB := below_box4 (HBW.out.setCell (p := ⟨w4.heap.size, 3, none⟩) (by simp; omega) (.slice Av (valsOf u).length nv)) (show w.heap.size ≤ w.heap.size + 1 by omega) (.int .i64 4) (.bool false) (.int .i64 0) (.slice Av (valsOf u).length nv)
    exact bodyPost_ret (v := .tuple #[.agg #[.int .i64 4, .bool false, .int .i64 0, .slice Av (valsOf u).length nv], .int .i64 0]) (by simp [results, Tryz.results40, go_sem, r0, r1, r2, r3] <;> rfl) rfl ⟨_, by rw [HVW.out.1, HVW.out.2]; rfl, by
      rw [HVW.out.1]
      exact HSL.out.up (fun b hb => (hK b (by have := hb.1; omega)).trans (Below.heap_setCell _ _ _ _ (by have := hb.1; simp; omega))) (fun b hb => ⟨by have := hb.1; omega, by rw [hS, hS5]; exact hb.2.1⟩) (fun _ _ _ h => h), hBB⟩
  · rw [hk]
    rintro e w4 ⟨rfl, hb4⟩
    have HBY := hid (hb4.mono (show w3.heap.size + 1 ≤ _ by simp))
    have hs4 := HBY.out.size
    simp only [World.size_alloc] at hs4
    have HV : Hid (∀ W, Below (w4.heap.size + 1) (w4.alloc (.cells #[.int .i64 5, .bool false, .int .i64 0, .slice none 0 0] 72)) W → (Below (w3.heap.size + 1) (w3.alloc (.cells #[.slice Ar u.es.length nr, .slice Br u.ks.length mr] 25)) W ∧ W.heap[w4.heap.size]? = some (.cells #[.int .i64 5, .bool false, .int .i64 0, .slice none 0 0] 72 (0, 0)))) := fun W hW =>
      ⟨HBY.out.trans ((((Below.refl _ w4).alloc (Nat.le_refl _) _).trans (hW.mono (by omega))).mono (by omega)), (hW.block w4.heap.size (by omega)).trans (heap_new rfl)⟩
    have HVW : Hid (readV t path = viewK 5 u ∧ readI t path = 0) := by
      have h0 : readI t path = 0 := by unfold readI; rw [HT.out, HI.out]; rfl
      exact ⟨by unfold readV; rw [if_pos h0, hk, HUK.out], h0⟩
    clear hBy ru y0 y1 y2 hb4 hk
    obtain ⟨hBv, gv⟩ := HV.out _ (Below.refl _ _)
    obtain ⟨hBy, ru, y0, y1, y2⟩ := HY.out _ hBv
    have v0 := cell_cells (i := 0) gv
    simp only [List.getElem?_toArray, List.getElem?_cons_zero] at v0
    go_wp2_with fail
    refine (okeys_any u _ _ _ ru (by omega)).mono ?_
    rintro e w5 ⟨vL, rfl, ho5, hb5⟩
    obtain ⟨Av, nv, rfl⟩ := ho5.shape
    have HSL := hid (OwnP.sla ho5 (by unfold Big; have := keys_len u; omega))
    have hbs5 : w.heap.size + 2 ≤ w5.heap.size := by have := hb5.size; simp at this; omega
    simp only [World.size_alloc] at HSL
    clear ho5
    have HBV := hid (hb5.mono (show w4.heap.size + 1 ≤ _ by simp))
    have hs5 := HBV.out.size
    simp only [World.size_alloc] at hs5
    clear hBv gv hBy ru y0 y1 y2 v0 hb5
    obtain ⟨hBv, gv⟩ := HV.out _ HBV.out
    obtain ⟨hBx, _, _, _, _⟩ := HY.out _ hBv
    obtain ⟨hBW, _, _, _, _, gz⟩ := HX.out _ hBx
    have HGV := hid gv
    have HGZ := hid gz
    have HBW := hid hBW
    have v0 := cell_cells (i := 0) gv
    have v1 := cell_cells (i := 1) gv
    have v2 := cell_cells (i := 2) gv
    have v3 := cell_cells (i := 3) gv
    simp only [List.getElem?_toArray, List.getElem?_cons_zero, List.getElem?_cons_succ] at v0 v1 v2 v3
    have u0 := cells_frz (i := 0) gv
    have u1 := cells_frz (i := 1) gv
    have u2 := cells_frz (i := 2) gv
    have u3 := cells_frz (i := 3) gv
    have k0 := cell_cells (i := 0) gz
    have k1 := cell_cells (i := 1) gz
    have k2 := cell_cells (i := 2) gz
    have k3 := cell_cells (i := 3) gz
    simp only [List.getElem?_toArray, List.getElem?_cons_zero, List.getElem?_cons_succ] at k0 k1 k2 k3
    have z0 := cells_frz (i := 0) gz
    have z1 := cells_frz (i := 1) gz
    have z2 := cells_frz (i := 2) gz
    have z3 := cells_frz (i := 3) gz
    have hne1 : w4.heap.size ≠ w.heap.size + 1 := by omega
    have hne2 : w.heap.size + 1 ≠ w4.heap.size := by omega
    clear hBv gv hBx hBW gz
    go_wp2_with fail
    have HG5 : (w5.setCell ⟨w4.heap.size, 3, none⟩ (.slice Av (keysOf u).length nv)).heap[w.heap.size + 1]? = some (.cells #[.int .i64 0, .bool false, .int .i64 0, .slice none 0 0] 72 (0, 0)) := (Below.heap_setCell _ _ _ _ (by simp; omega)).trans HGZ.out
    have hS5 : (w5.setCell ⟨w4.heap.size, 3, none⟩ (.slice Av (keysOf u).length nv)).heap.size = w5.heap.size := by simp [World.setCell]
    obtain ⟨r0, r1, r2, r3, hK, hS⟩ := box4 HG5 (.int .i64 5) (.bool false) (.int .i64 0) (.slice Av (keysOf u).length nv)
    have hBB := below_box4 (HBW.out.setCell (p := ⟨w4.heap.size, 3, none⟩) (by simp; omega) (.slice Av (keysOf u).length nv)) (show w.heap.size ≤ w.heap.size + 1 by omega) (.int .i64 5) (.bool false) (.int .i64 0) (.slice Av (keysOf u).length nv)
    exact bodyPost_ret (v := .tuple #[.agg #[.int .i64 5, .bool false, .int .i64 0, .slice Av (keysOf u).length nv], .int .i64 0]) (by simp [results, Tryz.results40, go_sem, r0, r1, r2, r3] <;> rfl) rfl ⟨_, by rw [HVW.out.1, HVW.out.2]; rfl, by
      rw [HVW.out.1]
      exact HSL.out.up (fun b hb => (hK b (by have := hb.1; omega)).trans (Below.heap_setCell _ _ _ _ (by have := hb.1; simp; omega))) (fun b hb => ⟨by have := hb.1; omega, by rw [hS, hS5]; exact hb.2.1⟩) (fun _ _ _ h => h), hBB⟩
end Go.Proofs.YtlapdmgjfdelnaaGreat

namespace Go.Proofs.YtlapdmgjfdelnaaGreat
open Go.RowKit
set_option maxRecDepth 100000

/-- Are two views alike? -/
def vwEq (a b : Vw) : Bool := decide (a.kind = b.kind) && (decide (a.on = b.on) && (decide (a.n = b.n) && decide (a.l = b.l)))
theorem vwEq_iff {a b : Vw} : vwEq a b = true ↔ a = b := by
  obtain ⟨k, o, n, l⟩ := a
  obtain ⟨k', o', n', l'⟩ := b
  unfold vwEq
  simp only [Bool.and_eq_true, decide_eq_true_eq, Vw.mk.injEq]
theorem vwEq_self (a : Vw) : vwEq a a = true := vwEq_iff.2 rfl
set_option maxHeartbeats 2000000 in
theorem r15same_any (a b : Vw) (va vb : Value) (w : World) (ha : SlP w w.heap.size 1 StE va a.l) (hb : SlP w w.heap.size 1 StE vb b.l) :
    Calls Tryz.prog 41 #[.agg #[.int .i64 a.kind, .bool a.on, .int .i64 a.n, va], .agg #[.int .i64 b.kind, .bool b.on, .int .i64 b.n, vb]] w fun e w' => e = .returned (.bool (vwEq a b)) ∧ Below w.heap.size w w' := by
  have HA : Hid (∀ w', Below w.heap.size w w' → SlP w' w'.heap.size 1 StE va a.l) := fun w' hb => ha.imp hb hb.size fun _ _ _ h => h
  have HB : Hid (∀ w', Below w.heap.size w w' → SlP w' w'.heap.size 1 StE vb b.l) := fun w' hw => hb.imp hw hw.size fun _ _ _ h => h
  obtain ⟨A1, n1, rfl, _⟩ := ha
  obtain ⟨A2, n2, rfl, _⟩ := hb
  obtain ⟨ka, ona, na, la⟩ := a
  obtain ⟨kb, onb, nb, lb⟩ := b
  simp only at HA HB ⊢
  have hb0 : Below w.heap.size w ((w.alloc (.cells #[.int .i64 ka, .bool ona, .int .i64 na, .slice A1 la.length n1] 72)).alloc (.cells #[.int .i64 kb, .bool onb, .int .i64 nb, .slice A2 lb.length n2] 72)) := ((Below.refl _ w).alloc (Nat.le_refl _) _).alloc (by simp) _
  have HE : Hid (vwEq ⟨ka, ona, na, la⟩ ⟨kb, onb, nb, lb⟩ = (decide (ka = kb) && (decide (ona = onb) && (decide (na = nb) && decide (la = lb))))) := rfl
  have hne : w.heap.size ≠ w.heap.size + 1 := by omega
  by_cases h1 : ka = kb
  case neg =>
    have e1 : (ka == kb) = false := by simpa using h1
    have hR : Hid (vwEq ⟨ka, ona, na, la⟩ ⟨kb, onb, nb, lb⟩ = false) := by unfold Hid; rw [HE.out]; simp [h1]
    clear h1
    go_enter Tryz.func41, Tryz.ntmps41
    go_wp2_with fail
    go_ret
    exact ⟨ret_bool hR.out.symm, hb0⟩
  by_cases h2 : ona = onb
  case neg =>
    have e1 : (ka == kb) = true := by simpa using h1
    have e2 : (ona == onb) = false := by simpa using h2
    have hR : Hid (vwEq ⟨ka, ona, na, la⟩ ⟨kb, onb, nb, lb⟩ = false) := by unfold Hid; rw [HE.out]; simp [h2]
    clear h1 h2
    go_enter Tryz.func41, Tryz.ntmps41
    go_wp2_with fail
    go_ret
    exact ⟨ret_bool hR.out.symm, hb0⟩
  by_cases h3 : na = nb
  case neg =>
    have e1 : (ka == kb) = true := by simpa using h1
    have e2 : (ona == onb) = true := by simpa using h2
    have e3 : (na == nb) = false := by simpa using h3
    have hR : Hid (vwEq ⟨ka, ona, na, la⟩ ⟨kb, onb, nb, lb⟩ = false) := by unfold Hid; rw [HE.out]; simp [h3]
    clear h1 h2 h3
    go_enter Tryz.func41, Tryz.ntmps41
    go_wp2_with fail
    go_ret
    exact ⟨ret_bool hR.out.symm, hb0⟩
  have e1 : (ka == kb) = true := by simpa using h1
  have e2 : (ona == onb) = true := by simpa using h2
  have e3 : (na == nb) = true := by simpa using h3
  have hR : Hid (vwEq ⟨ka, ona, na, la⟩ ⟨kb, onb, nb, lb⟩ = decide (la = lb)) := by unfold Hid; rw [HE.out]; simp [h1, h2, h3]
  clear h1 h2 h3
  have HB0 := hid hb0
  clear hb0
  go_enter Tryz.func41, Tryz.ntmps41
  go_wp2_with fail
  refine (r10alike_any la lb _ _ _ _ (HA.out _ HB0.out) (HB.out _ HB0.out)).mono ?_
  rintro e w1 ⟨rfl, q, rfl⟩
  go_wp2_with fail
  go_ret
  exact ⟨ret_bool hR.out.symm, HB0.out.trans ((below_drewN (Below.refl _ _) q).mono HB0.out.size)⟩
set_option maxHeartbeats 1000000 in
theorem begins_any (a b : List ByteArray) (va vb : Value) (w : World) (B : Nat) (ha : SlP w B 1 StE va a) (hb : SlP w B 1 StE vb b) :
    Calls Tryz.prog 96 #[va, vb] w fun e w' => e = .returned (.bool (begB a b)) ∧ Below w.heap.size w w' := by
  obtain ⟨A1, n1, rfl, b1, b2, b3⟩ := ha
  obtain ⟨A2, n2, rfl, c1, c2, c3⟩ := hb
  unfold Big at b2 c2
  by_cases hl : a.length < b.length
  · have hl' : decide ((a.length : Int) < (b.length : Int)) = true := by simpa using hl
    have HR : Hid (begB a b = false) := by
      unfold Hid begB
      rw [decide_eq_false_iff_not]
      intro e
      have := congrArg List.length e
      rw [List.length_take] at this
      omega
    go_enter Tryz.func96, Tryz.ntmps96
    go_wp2_with fail
    go_ret
    exact ⟨ret_bool HR.out.symm, Below.refl _ _⟩
  · have hl' : decide ((a.length : Int) < (b.length : Int)) = false := by simp; omega
    have HL : Hid (b.length ≤ a.length) := by unfold Hid; omega
    go_enter Tryz.func96, Tryz.ntmps96
    go_wp2_with fail
    go_loopw [13] (fun i wr => ∃ k : Nat, k ≤ b.length ∧ i = .int .i64 k ∧ Hid (a.take k = b.take k) ∧ ∃ n, wr = w.drewN n) (fun i _ => b.length - (intOf i).toNat)
    case atStart => exact ⟨0, Nat.zero_le _, rfl, rfl, 0, rfl⟩
    case round =>
      obtain ⟨k, hk, rfl, hrel, q, rfl⟩ := hrel
      by_cases hlt : k < b.length
      · have hlt2 : k < a.length := by have := HL.out; omega
        obtain ⟨x, hx⟩ : ∃ x, a[k]? = some x := ⟨_, List.getElem?_eq_getElem hlt2⟩
        obtain ⟨y, hy⟩ : ∃ y, b[k]? = some y := ⟨_, List.getElem?_eq_getElem hlt⟩
        obtain ⟨ba, oa, rfl, hbA, hc⟩ := b3 (by rintro rfl; simp at hlt2)
        obtain ⟨bb, ob, rfl, hbB, hd⟩ := c3 (by rintro rfl; simp at hlt)
        obtain ⟨cs, ⟨rfl, hok⟩, _, hu⟩ := hc k _ hx
        obtain ⟨ds, ⟨rfl, hok2⟩, _, hv⟩ := hd k _ hy
        have e0 : w.cell? ⟨ba, oa + k, none⟩ = some (.string x) := by simpa using hu 0 _ rfl
        have g0 : w.cell? ⟨bb, ob + k, none⟩ = some (.string y) := by simpa using hv 0 _ rfl
        have HT := hid (take_eq_succ hx hy hrel.out)
        have HXY : Hid (a.take b.length = b → x = y) := fun e => by
          have h1 : (a.take b.length)[k]? = a[k]? := by rw [List.getElem?_take, if_pos hlt]
          rw [e, hy, hx] at h1
          exact (Option.some.inj h1).symm
        have hi1 : ((k : Int)) < (a.length : Int) := by omega
        have hi2 : ((k : Int)) < (b.length : Int) := by omega
        clear hu hv hc hd b3 c3 hx hy hok hok2
        rcases hxy : (x.toList == y.toList)
        · have hne : x ≠ y := fun e => by rw [e] at hxy; simp at hxy
          have hxy2 : (x.toList != y.toList) = true := by simp [bne, hxy]
          have HR : Hid (begB a b = false) := by
            unfold Hid begB
            rw [decide_eq_false_iff_not]
            exact fun e => hne (HXY.out e)
          go_wp2_with fail
          go_quiet (fail)
          go_wp2_with fail
          go_ret
          exact ⟨ret_bool HR.out.symm, below_drewN (below_drewN (Below.refl _ w) _) _⟩
        · have hE := hid ((bytes_inj x y).1 (by simpa using hxy))
          have hxy2 : (x.toList != y.toList) = false := by simp [bne, hxy]
          go_wp2_with fail
          go_quiet (fail)
          go_wp2_with fail
          go_roundw
          case rel => exact ⟨k + 1, by omega, by go_num, HT.out.2 hE.out, q + nq, by first | rfl | exact World.drewN_drewN _ _ _⟩
          case measure => simp [intOf]; omega
      · obtain rfl : k = b.length := by omega
        have HR : Hid (begB a b = true) := by
          have h1 := hrel.out
          rw [List.take_of_length_le (l := b) (Nat.le_refl _)] at h1
          unfold Hid begB
          rw [h1]; simp
        clear hrel
        go_wp2_with fail
        go_ret
        exact ⟨ret_bool HR.out.symm, below_drewN (Below.refl _ w) _⟩
set_option maxHeartbeats 4000000 in
theorem undoes_any (x e : Opr) (vx ve : Value) (w : World) (hx : SlP w w.heap.size 1 StE vx x.path) (he : SlP w w.heap.size 1 StE ve e.path) :
    Calls Tryz.prog 153 #[.agg #[vx, .int .i64 x.act, .string x.s, .int .i64 x.n], .agg #[ve, .int .i64 e.act, .string e.s, .int .i64 e.n]] w fun r w' => r = .returned (.bool (undoB x e)) ∧ Below w.heap.size w w' := by
  have HA : Hid (∀ w', Below w.heap.size w w' → SlP w' w'.heap.size 1 StE vx x.path) := fun w' hb => hx.imp hb hb.size fun _ _ _ h => h
  have HB : Hid (∀ w', Below w.heap.size w w' → SlP w' w'.heap.size 1 StE ve e.path) := fun w' hb => he.imp hb hb.size fun _ _ _ h => h
  obtain ⟨A1, n1, rfl, b1, b2, _⟩ := hx
  obtain ⟨A2, n2, rfl, c1, c2, _⟩ := he
  unfold Big at b2 c2
  obtain ⟨px, ax, sx, nx⟩ := x
  obtain ⟨pe, ae, se, ne⟩ := e
  simp only at HA HB b1 b2 c1 c2 ⊢
  have HU : Hid (undoB ⟨px, ax, sx, nx⟩ ⟨pe, ae, se, ne⟩ = (begB pe px && (decide (ax = 7) || (decide (pe.length = px.length) && (if ax = 1 ∨ ax = 2 then decide (ae = 1) else if ax = 3 ∨ ax = 4 then decide (ae = 3) && decide (se = sx) else if ax = 6 then decide (ae = 6) else false))))) := rfl
  have HX : Hid (∀ W, Below (w.heap.size + 2) ((w.alloc (.cells #[.slice A1 px.length n1, .int .i64 ax, .string sx, .int .i64 nx] 67)).alloc (.cells #[.slice A2 pe.length n2, .int .i64 ae, .string se, .int .i64 ne] 67)) W → (Below w.heap.size w W ∧ SlP W W.heap.size 1 StE (.slice A1 px.length n1) px ∧ SlP W W.heap.size 1 StE (.slice A2 pe.length n2) pe ∧ W.cell? ⟨w.heap.size, 0, none⟩ = some (.slice A1 px.length n1) ∧ W.cell? ⟨w.heap.size, 1, none⟩ = some (.int .i64 ax) ∧ W.cell? ⟨w.heap.size, 2, none⟩ = some (.string sx) ∧ W.cell? ⟨w.heap.size + 1, 0, none⟩ = some (.slice A2 pe.length n2) ∧ W.cell? ⟨w.heap.size + 1, 1, none⟩ = some (.int .i64 ae) ∧ W.cell? ⟨w.heap.size + 1, 2, none⟩ = some (.string se))) := fun W hW => by
    have g0 : W.heap[w.heap.size]? = some (.cells #[.slice A1 px.length n1, .int .i64 ax, .string sx, .int .i64 nx] 67 (0, 0)) := (hW.block _ (by omega)).trans ((heap_old (by simp)).trans (heap_new rfl))
    have g1 : W.heap[w.heap.size + 1]? = some (.cells #[.slice A2 pe.length n2, .int .i64 ae, .string se, .int .i64 ne] 67 (0, 0)) := (hW.block _ (by omega)).trans (heap_new (by simp))
    have hB : Below w.heap.size w W := (((Below.refl _ w).alloc (Nat.le_refl _) _).alloc (by simp) _).trans (hW.mono (by omega))
    exact ⟨hB, HA.out _ hB, HB.out _ hB, cell_cells (i := 0) g0, cell_cells (i := 1) g0, cell_cells (i := 2) g0, cell_cells (i := 0) g1, cell_cells (i := 1) g1, cell_cells (i := 2) g1⟩
  go_enter Tryz.func153, Tryz.ntmps153
  go_wp2_with fail
  obtain ⟨hB, r0, r1, q0, q1, q2, p0, p1, p2⟩ := HX.out _ (Below.refl _ _)
  refine (begins_any pe px _ _ _ _ r1 r0).mono ?_
  cases hbg : begB pe px
  · rintro r w1 ⟨rfl, hb1⟩
    have hBW := hB.trans (hb1.mono (by simp; omega))
    rw [hbg] at HU
    clear hB hb1 hbg
    have hB := hBW
    go_wp2_with fail
    all_goals (go_ret; exact ⟨ret_bool (by rw [HU.out]; rfl), hB⟩)
  rintro r w1 ⟨rfl, hb1⟩
  have HB1 := hid (hb1.mono (show w.heap.size + 2 ≤ _ by simp))
  rw [hbg, Bool.true_and] at HU
  clear hB r0 r1 q0 q1 q2 p0 p1 p2 hb1 hbg
  obtain ⟨hB, _, _, q0, q1, q2, p0, p1, p2⟩ := HX.out _ HB1.out
  by_cases h7 : ax = 7
  · have hR : Hid (undoB ⟨px, ax, sx, nx⟩ ⟨pe, ae, se, ne⟩ = true) := by unfold Hid; rw [HU.out, decide_eq_true h7]; rfl
    have e7 : (ax == 7) = true := by simpa using h7
    clear h7
    go_wp2_with fail
    all_goals (go_ret; exact ⟨ret_bool hR.out.symm, hB⟩)
  have e7 : (ax == 7) = false := by simpa using h7
  rw [show decide (ax = 7) = false from decide_eq_false h7, Bool.false_or] at HU
  by_cases hl : pe.length = px.length
  case neg =>
    have el : ((pe.length : Int) != (px.length : Int)) = true := by simp; omega
    rw [show decide (pe.length = px.length) = false from decide_eq_false hl] at HU
    clear h7 hl
    go_wp2_with fail
    all_goals (go_ret; exact ⟨ret_bool (by rw [HU.out]; rfl), hB⟩)
  have el : ((pe.length : Int) != (px.length : Int)) = false := by simp [hl]
  rw [show decide (pe.length = px.length) = true from decide_eq_true hl, Bool.true_and] at HU
  clear hl
  by_cases hc : ax = 1 ∨ ax = 2 ∨ ax = 3 ∨ ax = 4 ∨ ax = 6
  case neg =>
    have e1 : (ax == 1) = false := by simp; omega
    have e2 : (ax == 2) = false := by simp; omega
    have e3 : (ax == 3) = false := by simp; omega
    have e4 : (ax == 4) = false := by simp; omega
    have e6 : (ax == 6) = false := by simp; omega
    have HR : Hid (undoB ⟨px, ax, sx, nx⟩ ⟨pe, ae, se, ne⟩ = false) := by unfold Hid; rw [HU.out, if_neg (by omega), if_neg (by omega), if_neg (by omega)]
    clear hc h7
    go_wp2_with fail
    all_goals (go_ret; exact ⟨ret_bool HR.out.symm, hB⟩)
  have HU2 := HU
  rcases hc with rfl | rfl | rfl | rfl | rfl
  · go_wp2_with fail
    all_goals (go_ret; exact ⟨ret_bool (by rw [HU2.out, if_pos (by simp)]; rw [Bool.eq_iff_iff]; simp), hB⟩)
  · go_wp2_with fail
    all_goals (go_ret; exact ⟨ret_bool (by rw [HU2.out, if_pos (by simp)]; rw [Bool.eq_iff_iff]; simp), hB⟩)
  · by_cases h3 : ae = 3
    · have e3 : (ae == 3) = true := by simpa using h3
      have HS : Hid (decide (se = sx) = (se.toList == sx.toList)) := by unfold Hid; rw [Bool.eq_iff_iff]; simp [bytes_inj]
      have HH : Hid (undoB ⟨px, 3, sx, nx⟩ ⟨pe, ae, se, ne⟩ = (se.toList == sx.toList)) := by unfold Hid; rw [HU2.out, if_neg (by simp), if_pos (by simp), HS.out]; simp [h3]
      clear h3
      go_wp2_with fail
      all_goals (go_ret; exact ⟨ret_bool HH.out.symm, hB⟩)
    · have e3 : (ae == 3) = false := by simpa using h3
      have HH : Hid (undoB ⟨px, 3, sx, nx⟩ ⟨pe, ae, se, ne⟩ = false) := by unfold Hid; rw [HU2.out, if_neg (by simp), if_pos (by simp)]; simp [h3]
      clear h3
      go_wp2_with fail
      all_goals (go_ret; exact ⟨ret_bool HH.out.symm, hB⟩)
  · by_cases h3 : ae = 3
    · have e3 : (ae == 3) = true := by simpa using h3
      have HS : Hid (decide (se = sx) = (se.toList == sx.toList)) := by unfold Hid; rw [Bool.eq_iff_iff]; simp [bytes_inj]
      have HH : Hid (undoB ⟨px, 4, sx, nx⟩ ⟨pe, ae, se, ne⟩ = (se.toList == sx.toList)) := by unfold Hid; rw [HU2.out, if_neg (by simp), if_pos (by simp), HS.out]; simp [h3]
      clear h3
      go_wp2_with fail
      all_goals (go_ret; exact ⟨ret_bool HH.out.symm, hB⟩)
    · have e3 : (ae == 3) = false := by simpa using h3
      have HH : Hid (undoB ⟨px, 4, sx, nx⟩ ⟨pe, ae, se, ne⟩ = false) := by unfold Hid; rw [HU2.out, if_neg (by simp), if_pos (by simp)]; simp [h3]
      clear h3
      go_wp2_with fail
      all_goals (go_ret; exact ⟨ret_bool HH.out.symm, hB⟩)
  · go_wp2_with fail
    all_goals (go_ret; exact ⟨ret_bool (by rw [HU2.out, if_neg (by simp), if_neg (by simp), if_pos (by simp)]; rw [Bool.eq_iff_iff]; simp), hB⟩)
end Go.Proofs.YtlapdmgjfdelnaaGreat

namespace Go.Proofs.YtlapdmgjfdelnaaGreat
open Go.RowKit
set_option maxRecDepth 100000

theorem vis_take {l : List Ev} {k : Nat} {x : Ev} (h : l[k]? = some x) (c : List Sp) : visL (l.take (k + 1)) c = visL (l.take k) c ++ (if hasC c x.d then [x] else []) := by
  unfold visL
  rw [List.take_add_one, h, List.filter_append]
  cases hh : hasC c x.d <;> simp [hh]
theorem vis_len (l : List Ev) (c : List Sp) : (visL l c).length ≤ l.length := List.length_filter_le _ _
set_option maxHeartbeats 4000000 in
theorem visible_any (l : List Ev) (c : List Sp) (vl vc : Value) (w : World) (hl : EvL w vl l) (hc : SlP w w.heap.size 3 SpE vc c) (hN : c.length ≤ 900000) (hL : l.length ≤ 1000) :
    Calls Tryz.prog 39 #[vl, vc] w (RetD w 80 7 EvA (fun b => b < w.heap.size) (visL l c)) := by
  have HC : Hid (∀ w', Below w.heap.size w w' → SlP w' w'.heap.size 3 SpE vc c) := fun w' hb => hc.imp hb hb.size fun _ _ _ h => h
  have HL0 := hid hl
  obtain ⟨A, n, rfl, b1, b2, _⟩ := hl
  unfold Big at b2
  go_enter Tryz.func39, Tryz.ntmps39
  go_wp2_with fail
  go_loopw [5, 9] (fun v i wr => ∃ k : Nat, k ≤ l.length ∧ i = .int .i64 k ∧ OwnD wr w.heap.size 80 7 EvA (fun b => b < w.heap.size ∨ w.heap.size ≤ b) v (visL (l.take k) c) ∧ Below w.heap.size w wr) (fun _ i _ => l.length - (intOf i).toNat)
  case atStart => exact ⟨0, Nat.zero_le _, rfl, OwnD.nil, Below.refl _ _⟩
  case round =>
    obtain ⟨k, hk, rfl, hown, hb⟩ := hrel
    have hsz := hb.size
    by_cases hlt : k < l.length
    · obtain ⟨x, hx⟩ : ∃ x, l[k]? = some x := ⟨_, List.getElem?_eq_getElem hlt⟩
      obtain ⟨b, off, A5, c5, A6, c6, rfl, hbB, hpx, hsx, hdx, hox, hu⟩ := EvL.at HL0.out hx
      have HU := hid hu
      obtain ⟨e0, e1, e2, e3, e4, e5, e6⟩ := hu wr hb
      have HT := hid (vis_take hx c)
      have HLN : Hid ((visL (l.take k) c).length + [x].length ≤ Few) := by have := vis_len (l.take k) c; unfold Hid Few; simp at this ⊢; omega
      have HP := hid hpx
      have HS := hid hsx
      have HDX := hid hdx
      have HOX := hid hox
      clear hu hx hpx hsx hdx hox
      go_wp2_with fail
      refine (r07has_any c x.d _ _ (HC.out _ hb) (by omega)).mono ?_
      cases hh : hasC c x.d
      · rintro e w1 ⟨rfl, hb1⟩
        have HX : Hid (visL (l.take (k + 1)) c = visL (l.take k) c) := by unfold Hid; rw [HT.out, hh]; simp
        have HO1 := hid (hown.grow EvA.mon hb1)
        have hB1 := hb.trans (hb1.mono hsz)
        clear hh e0 e1 e2 e3 e4 e5 e6 hown
        go_wp2_with fail
        go_roundw
        case rel => exact ⟨k + 1, by omega, by go_num, by rw [HX.out]; exact HO1.out, hB1⟩
        case measure => simp [intOf]; omega
      · rintro e w1 ⟨rfl, hb1⟩
        have HX : Hid (visL (l.take (k + 1)) c = visL (l.take k) c ++ [x]) := by unfold Hid; rw [HT.out, hh]; simp
        have hown1 := hown.grow EvA.mon hb1
        have hB1 := hb.trans (hb1.mono hsz)
        have hs1 := hB1.size
        clear hh e0 e1 e2 e3 e4 e5 e6 hown
        obtain ⟨e0, e1, e2, e3, e4, e5, e6⟩ := HU.out w1 hB1
        have HO : Hid (∀ o, SlP (w1.alloc (.cells [.int .i64 x.d.dc, .int .i64 x.d.n, .slice A5 x.o.path.length c5, .int .i64 x.o.act, .string x.o.s, .int .i64 x.o.n, .slice A6 x.seen.length c6].toArray o)) (w1.alloc (.cells [.int .i64 x.d.dc, .int .i64 x.d.n, .slice A5 x.o.path.length c5, .int .i64 x.o.act, .string x.o.s, .int .i64 x.o.n, .slice A6 x.seen.length c6].toArray o)).heap.size 7 (EvA (w1.alloc (.cells [.int .i64 x.d.dc, .int .i64 x.d.n, .slice A5 x.o.path.length c5, .int .i64 x.o.act, .string x.o.s, .int .i64 x.o.n, .slice A6 x.seen.length c6].toArray o)) (fun b => (b < w.heap.size ∨ w.heap.size ≤ b) ∧ b < (w1.alloc (.cells [.int .i64 x.d.dc, .int .i64 x.d.n, .slice A5 x.o.path.length c5, .int .i64 x.o.act, .string x.o.s, .int .i64 x.o.n, .slice A6 x.seen.length c6].toArray o)).heap.size ∧ u5.ownBlock ≠ some b)) (.slice (some ⟨w1.heap.size, 0, none⟩) 1 1) [x]) := fun o => by
          rw [World.size_alloc]
          have hk1 : ∀ b, b < w.heap.size → (w1.alloc (.cells [.int .i64 x.d.dc, .int .i64 x.d.n, .slice A5 x.o.path.length c5, .int .i64 x.o.act, .string x.o.s, .int .i64 x.o.n, .slice A6 x.seen.length c6].toArray o)).heap[b]? = w.heap[b]? := fun b hb' => (hB1.alloc hs1 _).block b hb'
          have hk2 : ∀ b, b < w.heap.size → (b < w.heap.size ∨ w.heap.size ≤ b) ∧ b < w1.heap.size + 1 ∧ u5.ownBlock ≠ some b := fun b hb' => ⟨.inl hb', by omega, fun e => by have := (OwnP.lt hown1 b e).1; omega⟩
          exact SlP.one (E := EvA _ _) (x := x) ⟨A5, c5, A6, c6, rfl, (SlP_iff.1 HP.out).up hk1 hk2 (fun _ _ _ h => h), (SlP_iff.1 HS.out).up hk1 hk2 (fun _ _ _ h => h), HDX.out, HOX.out⟩ rfl o rfl
        go_wp2_with (at_builtin; with_reducible refine wpList_d rfl (.tmp 19) (.tmp 24) _ rfl EvA.mon eiEv (by decide) (by decide) rfl (hown1.grow EvA.mon ((Below.refl _ _).alloc (Nat.le_refl _) _)) rfl (HO.out _) HLN.out (by rw [World.size_alloc]; omega) ?_; intro v1 w2 hown2 hb2 _ _)
        go_roundw
        case rel => exact ⟨k + 1, by omega, by go_num, by rw [HX.out]; exact hown2, (hB1.alloc hs1 _).trans hb2⟩
        case measure => simp [intOf]; omega
    · obtain rfl : k = l.length := by omega
      rw [List.take_of_length_le (Nat.le_refl _)] at hown
      go_wp2_with fail
      go_ret
      exact ⟨_, rfl, hown, hb⟩
/-- Are a change's texts short? -/
def shortB (o : Opr) : Bool := decide (o.path.length ≤ 9) && (decide (o.s.size ≤ 99) && o.path.all fun k => decide (k.size ≤ 99))
set_option maxHeartbeats 2000000 in
theorem short15_any (o : Opr) (vp : Value) (w : World) (h : SlP w w.heap.size 1 StE vp o.path) (ho : o.Ok) :
    Calls Tryz.prog 85 #[.agg #[vp, .int .i64 o.act, .string o.s, .int .i64 o.n]] w fun e w' => e = .returned (.bool (shortB o)) ∧ Below w.heap.size w w' := by
  have hos := ho.s
  obtain ⟨A, n, rfl, c1, c2, c3⟩ := h
  unfold Big at c2 hos
  obtain ⟨path, act, s, nn⟩ := o
  simp only at c1 c2 c3 hos ⊢
  have HSB : Hid (shortB ⟨path, act, s, nn⟩ = (decide (path.length ≤ 9) && (decide (s.size ≤ 99) && path.all fun k => decide (k.size ≤ 99)))) := rfl
  have hb0 : Below w.heap.size w (w.alloc (.cells #[.slice A path.length n, .int .i64 act, .string s, .int .i64 nn] 67)) := (Below.refl _ w).alloc (Nat.le_refl _) _
  go_enter Tryz.func85, Tryz.ntmps85
  by_cases h9 : 9 < path.length
  · have HR : Hid (shortB ⟨path, act, s, nn⟩ = false) := by unfold Hid; rw [HSB.out, decide_eq_false (by omega)]; rfl
    have e9 : decide ((9 : Int) < (path.length : Int)) = true := decide_eq_true (by omega)
    go_wp2_with fail
    go_ret
    exact ⟨ret_bool HR.out.symm, hb0⟩
  have e9 : decide ((9 : Int) < (path.length : Int)) = false := decide_eq_false (by omega)
  have H9 : Hid (decide (path.length ≤ 9) = true) := decide_eq_true (by omega)
  by_cases h99 : 99 < s.size
  · have HR : Hid (shortB ⟨path, act, s, nn⟩ = false) := by unfold Hid; rw [HSB.out, H9.out, decide_eq_false (show ¬ s.size ≤ 99 by omega)]; rfl
    have e99 : decide ((99 : Int) < (s.size : Int)) = true := decide_eq_true (by omega)
    go_wp2_with fail
    go_ret
    exact ⟨ret_bool HR.out.symm, hb0⟩
  have e99 : decide ((99 : Int) < (s.size : Int)) = false := decide_eq_false (by omega)
  have HS2 : Hid (shortB ⟨path, act, s, nn⟩ = path.all fun k => decide (k.size ≤ 99)) := by unfold Hid; rw [HSB.out, H9.out, decide_eq_true (show s.size ≤ 99 by omega)]; rfl
  go_wp2_with fail
  go_loop [17] (fun i => ∃ k : Nat, k ≤ path.length ∧ i = .int .i64 k ∧ Hid (((path.take k).all fun k => decide (k.size ≤ 99)) = true)) (fun i => path.length - (intOf i).toNat)
  case atStart => exact ⟨0, Nat.zero_le _, rfl, rfl⟩
  case round =>
    obtain ⟨k, hk, rfl, hrel⟩ := hrel
    by_cases hlt : k < path.length
    · obtain ⟨x, hx⟩ : ∃ x, path[k]? = some x := ⟨_, List.getElem?_eq_getElem hlt⟩
      obtain ⟨b, off, rfl, hbB, hc⟩ := c3 (by rintro rfl; simp at hlt)
      obtain ⟨cs, ⟨rfl, hok⟩, _, hu⟩ := hc k _ hx
      have e0 : (w.alloc (.cells #[.slice (some ⟨b, off, none⟩) path.length n, .int .i64 act, .string s, .int .i64 nn] 67)).cell? ⟨b, off + k, none⟩ = some (.string x) := (hb0.cell hbB).trans (by simpa using hu 0 _ rfl)
      have HM : Hid (x ∈ path) := List.mem_of_getElem? hx
      have HT : Hid (((path.take (k + 1)).all fun k => decide (k.size ≤ 99)) = decide (x.size ≤ 99)) := by
        unfold Hid; rw [List.take_add_one, hx, List.all_append, hrel.out]; simp
      unfold Big at hok
      clear hu hc c3 hx
      by_cases he : 99 < x.size
      · have hq : decide ((99 : Int) < (x.size : Int)) = true := decide_eq_true (by omega)
        have HR : Hid (shortB ⟨path, act, s, nn⟩ = false) := by
          unfold Hid; rw [HS2.out, List.all_eq_false]; exact ⟨x, HM.out, by simpa using he⟩
        go_wp2_with fail
        go_ret
        exact ⟨ret_bool HR.out.symm, hb0⟩
      · have hq : decide ((99 : Int) < (x.size : Int)) = false := decide_eq_false (by omega)
        have HE : Hid (decide (x.size ≤ 99) = true) := decide_eq_true (by omega)
        go_wp2_with fail
        go_round
        case rel => exact ⟨k + 1, by omega, by go_num, by unfold Hid; rw [HT.out]; exact HE.out⟩
        case measure => simp [intOf]; omega
    · obtain rfl : k = path.length := by omega
      have hr := hrel.out
      rw [List.take_of_length_le (Nat.le_refl _)] at hr
      have HR := hid hr
      clear hr hrel
      go_wp2_with fail
      go_ret
      exact ⟨ret_bool (by rw [HS2.out, HR.out]), hb0⟩
theorem all_no {l : List Ev} {x : Ev} {p : Ev → Bool} (h : x ∈ l) (hp : p x = false) : l.all p = false := by
  rw [List.all_eq_false]; exact ⟨x, h, by simp [hp]⟩
set_option maxHeartbeats 4000000 in
theorem stands_any (l : List Ev) (e : Ev) (vl vp vs : Value) (w : World) (hl : EvL w vl l) (hp : SlP w w.heap.size 1 StE vp e.o.path) (hs : SlP w w.heap.size 3 SpE vs e.seen) (hN : ∀ x ∈ l, x.seen.length ≤ 900000) :
    Calls Tryz.prog 97 #[vl, .agg #[.int .i64 e.d.dc, .int .i64 e.d.n, vp, .int .i64 e.o.act, .string e.o.s, .int .i64 e.o.n, vs]] w fun r w' => r = .returned (.bool (standB l e)) ∧ Below w.heap.size w w' := by
  have HL0 := hid hl
  have HP : Hid (∀ w', Below w.heap.size w w' → SlP w' w'.heap.size 1 StE vp e.o.path) := fun w' hb => hp.imp hb hb.size fun _ _ _ h => h
  obtain ⟨A, n, rfl, b1, b2, _⟩ := hl
  unfold Big at b2
  obtain ⟨Ap, np, rfl, _⟩ := hp
  obtain ⟨As, ns, rfl, _⟩ := hs
  obtain ⟨⟨dd, dn⟩, ⟨path, act, s, nn⟩, seen⟩ := e
  simp only at HP ⊢
  have HSB : Hid (standB l ⟨⟨dd, dn⟩, ⟨path, act, s, nn⟩, seen⟩ = (entryB act && l.all (undB ⟨dd, dn⟩ ⟨path, act, s, nn⟩))) := rfl
  have HX : Hid (∀ W, Below (w.heap.size + 1) (w.alloc (.cells #[.int .i64 dd, .int .i64 dn, .slice Ap path.length np, .int .i64 act, .string s, .int .i64 nn, .slice As seen.length ns] 80)) W → (Below w.heap.size w W ∧ W.cell? ⟨w.heap.size, 0, none⟩ = some (.int .i64 dd) ∧ W.cell? ⟨w.heap.size, 1, none⟩ = some (.int .i64 dn) ∧ W.cell? ⟨w.heap.size, 2, none⟩ = some (.slice Ap path.length np) ∧ W.cell? ⟨w.heap.size, 3, none⟩ = some (.int .i64 act) ∧ W.cell? ⟨w.heap.size, 4, none⟩ = some (.string s) ∧ W.cell? ⟨w.heap.size, 5, none⟩ = some (.int .i64 nn))) := fun W hW => by
    have g0 : W.heap[w.heap.size]? = some (.cells #[.int .i64 dd, .int .i64 dn, .slice Ap path.length np, .int .i64 act, .string s, .int .i64 nn, .slice As seen.length ns] 80 (0, 0)) := (hW.block _ (by omega)).trans (heap_new rfl)
    have hB : Below w.heap.size w W := ((Below.refl _ w).alloc (Nat.le_refl _) _).trans (hW.mono (by omega))
    exact ⟨hB, cell_cells (i := 0) g0, cell_cells (i := 1) g0, cell_cells (i := 2) g0, cell_cells (i := 3) g0, cell_cells (i := 4) g0, cell_cells (i := 5) g0⟩
  go_enter Tryz.func97, Tryz.ntmps97
  go_wp2_with fail
  obtain ⟨hB, q0, q1, q2, q3, q4, q5⟩ := HX.out _ (Below.refl _ _)
  refine (entry_any act _).mono ?_
  cases he : entryB act
  · rintro r w1 ⟨rfl, hb1⟩
    have hB1 := hB.trans (hb1.mono (by simp))
    have HE := hid he
    clear he
    go_wp2_with fail
    go_ret
    exact ⟨ret_bool (by rw [HSB.out, HE.out]; rfl), hB1⟩
  rintro r w1 ⟨rfl, hb1⟩
  have HB1 := hid (hb1.mono (show w.heap.size + 1 ≤ _ by simp))
  have HS2 : Hid (standB l ⟨⟨dd, dn⟩, ⟨path, act, s, nn⟩, seen⟩ = l.all (undB ⟨dd, dn⟩ ⟨path, act, s, nn⟩)) := by unfold Hid; rw [HSB.out, he]; rfl
  have hs1 := HB1.out.size
  simp only [World.size_alloc] at hs1
  clear hB q0 q1 q2 q3 q4 q5 hb1 he
  go_wp2_with fail
  go_loopw [13] (fun i wr => ∃ k : Nat, k ≤ l.length ∧ i = .int .i64 k ∧ Hid (((l.take k).all (undB ⟨dd, dn⟩ ⟨path, act, s, nn⟩)) = true) ∧ Below (w.heap.size + 1) (w.alloc (.cells #[.int .i64 dd, .int .i64 dn, .slice Ap path.length np, .int .i64 act, .string s, .int .i64 nn, .slice As seen.length ns] 80)) wr) (fun i _ => l.length - (intOf i).toNat)
  case atStart => exact ⟨0, Nat.zero_le _, rfl, rfl, HB1.out⟩
  case round =>
    obtain ⟨k, hk, rfl, hall, hb⟩ := hrel
    have HBR := hid hb
    have hsr := hb.size
    simp only [World.size_alloc] at hsr
    obtain ⟨hB, q0, q1, q2, q3, q4, q5⟩ := HX.out wr hb
    clear hb
    by_cases hlt : k < l.length
    · obtain ⟨x, hx⟩ : ∃ x, l[k]? = some x := ⟨_, List.getElem?_eq_getElem hlt⟩
      obtain ⟨b, off, A5, c5, A6, c6, rfl, hbB, hpx, hsx, hdx, hox, hu⟩ := EvL.at HL0.out hx
      obtain ⟨e0, e1, e2, e3, e4, e5, e6⟩ := hu wr hB
      have HM : Hid (x ∈ l) := List.mem_of_getElem? hx
      have HT : Hid (((l.take (k + 1)).all (undB ⟨dd, dn⟩ ⟨path, act, s, nn⟩)) = !(hasC x.seen ⟨dd, dn⟩ && undoB x.o ⟨path, act, s, nn⟩)) := by
        unfold Hid; rw [List.take_add_one, hx, List.all_append, hall.out]; simp [undB]
      have hxl := hN x (List.mem_of_getElem? hx)
      have HQU := hid (fun (w5 : World) (hb5 : Below wr.heap.size wr w5) => undoes_any x.o ⟨path, act, s, nn⟩ _ _ w5 (hpx.imp (hB.trans (hb5.mono (by omega))) (hB.trans (hb5.mono (by omega))).size fun _ _ _ h => h) (HP.out w5 (hB.trans (hb5.mono (by omega)))))
      have hbl : b < wr.heap.size := by omega
      have hwl : w.heap.size < wr.heap.size := by omega
      have hi1 : ((k : Int)) < (l.length : Int) := by omega
      have f0 := far_cell (B := wr.heap.size) q0 hwl
      have f1 := far_cell (B := wr.heap.size) q1 hwl
      have f2 := far_cell (B := wr.heap.size) q2 hwl
      have f3 := far_cell (B := wr.heap.size) q3 hwl
      have f4 := far_cell (B := wr.heap.size) q4 hwl
      have f5 := far_cell (B := wr.heap.size) q5 hwl
      have f6 := far_cell (B := wr.heap.size) e2 hbl
      have f7 := far_cell (B := wr.heap.size) e3 hbl
      have f8 := far_cell (B := wr.heap.size) e4 hbl
      have f9 := far_cell (B := wr.heap.size) e5 hbl
      have f10 := far_cell (B := wr.heap.size) e6 hbl
      have HSX := hid hsx
      have HBW := hid hB
      clear hu hx hpx hsx hdx hox hB e0 e1 e2 e3 e4 e5 e6 q0 q1 q2 q3 q4 q5
      cases hh : hasC x.seen ⟨dd, dn⟩
      · have HQH := hid (fun (w5 : World) (hb5 : Below wr.heap.size wr w5) => Calls.boolEq (r07has_any x.seen ⟨dd, dn⟩ _ w5 (HSX.out.imp (HBW.out.trans (hb5.mono (by omega))) (HBW.out.trans (hb5.mono (by omega))).size fun _ _ _ h => h) (by omega)) hh)
        have HT2 : Hid (((l.take (k + 1)).all (undB ⟨dd, dn⟩ ⟨path, act, s, nn⟩)) = true) := by unfold Hid; rw [HT.out, hh]; rfl
        clear hh HQU
        go_upto_region 6 with (fail)
        refine wp_region_far wr.heap.size (by kernel_rfl) (by kernel_rfl) ?_
        repeat (go_big_quiet_step (first | (go_at_call 44; with_reducible exact Calls.far_all (Nat.le_refl _) HQH.out)))
        refine wpQuiet_nil ?_
        intro w6 hb6
        have HB6 := hid (HBR.out.trans (hb6.mono (by first | omega | (simp; omega))))
        clear f0 f1 f2 f3 f4 f5 f6 f7 f8 f9 f10 hb6
        go_wp2_with fail
        go_roundw
        case rel => exact ⟨k + 1, by omega, by go_num, HT2.out, HB6.out⟩
        case measure => simp [intOf]; omega
      · have HQH := hid (fun (w5 : World) (hb5 : Below wr.heap.size wr w5) => Calls.boolEq (r07has_any x.seen ⟨dd, dn⟩ _ w5 (HSX.out.imp (HBW.out.trans (hb5.mono (by omega))) (HBW.out.trans (hb5.mono (by omega))).size fun _ _ _ h => h) (by omega)) hh)
        have HT2 : Hid (((l.take (k + 1)).all (undB ⟨dd, dn⟩ ⟨path, act, s, nn⟩)) = !(undoB x.o ⟨path, act, s, nn⟩)) := by unfold Hid; rw [HT.out, hh]; rfl
        have HUB : Hid (undoB x.o ⟨path, act, s, nn⟩ = true → standB l ⟨⟨dd, dn⟩, ⟨path, act, s, nn⟩, seen⟩ = false) := fun hu => by
          rw [HS2.out]; exact all_no HM.out (by unfold undB; rw [hh, hu]; rfl)
        clear hh
        go_upto_region 6 with (fail)
        refine wp_region_far wr.heap.size (by kernel_rfl) (by kernel_rfl) ?_
        repeat (go_big_quiet_step (first | (go_at_call 44; with_reducible exact Calls.far_all (Nat.le_refl _) HQH.out) | (go_at_call 153; with_reducible exact Calls.far_all (Nat.le_refl _) HQU.out)))
        refine wpQuiet_nil ?_
        intro w6 hb6
        have HB6 := hid (HBR.out.trans (hb6.mono (by first | omega | (simp; omega))))
        have hB6 := (HX.out w6 HB6.out).1
        clear f0 f1 f2 f3 f4 f5 f6 f7 f8 f9 f10 hb6
        cases hun : undoB x.o ⟨path, act, s, nn⟩
        · have HT3 : Hid (((l.take (k + 1)).all (undB ⟨dd, dn⟩ ⟨path, act, s, nn⟩)) = true) := by unfold Hid; rw [HT2.out, hun]; rfl
          clear hun
          go_wp2_with fail
          go_roundw
          case rel => exact ⟨k + 1, by omega, by go_num, HT3.out, HB6.out⟩
          case measure => simp [intOf]; omega
        · have HF := hid (HUB.out hun)
          clear hun
          go_wp2_with fail
          go_ret
          exact ⟨ret_bool HF.out.symm, hB6⟩
    · obtain rfl : k = l.length := by omega
      have hr := hall.out
      rw [List.take_of_length_le (Nat.le_refl _)] at hr
      have HR := hid hr
      clear hr hall
      go_wp2_with fail
      go_ret
      exact ⟨ret_bool (by rw [HS2.out, HR.out]), hB⟩
end Go.Proofs.YtlapdmgjfdelnaaGreat

namespace Go.Proofs.YtlapdmgjfdelnaaGreat
open Go.RowKit
set_option maxRecDepth 100000

end Go.Proofs.YtlapdmgjfdelnaaGreat

namespace Go.Proofs.YtlapdmgjfdelnaaGreat
open Go.RowKit
set_option maxRecDepth 100000

/-- The fold of the first k changes. -/
def specK (l : List Ev) (path : List ByteArray) (k : Nat) : Bool × Int × List ByteArray := (l.take k).foldl (fun s e => if takB l path e then stepS (kindB (lastK path)) path s e else s) (false, 0, [])
theorem specK_succ {l : List Ev} {k : Nat} {x : Ev} (h : l[k]? = some x) (path : List ByteArray) : specK l path (k + 1) = if takB l path x then stepS (kindB (lastK path)) path (specK l path k) x else specK l path k := by
  unfold specK; rw [List.take_add_one, h, List.foldl_append]; rfl
theorem stepS_len (k : Int) (path : List ByteArray) (s : Bool × Int × List ByteArray) (e : Ev) : (stepS k path s e).2.2.length ≤ s.2.2.length + 1 := by
  unfold stepS
  split
  · simp
  split
  · simp
  split
  · simp
  split <;> simp
theorem specK_len (l : List Ev) (path : List ByteArray) : ∀ k, (specK l path k).2.2.length ≤ k
  | 0 => by simp [specK]
  | k + 1 => by
    have ih := specK_len l path k
    cases h : l[k]? with
    | none =>
      have : specK l path (k + 1) = specK l path k := by unfold specK; rw [List.take_add_one, h]; simp
      rw [this]; omega
    | some x =>
      rw [specK_succ h]
      split
      · have := stepS_len (kindB (lastK path)) path (specK l path k) x; omega
      · omega
theorem sdL_len (l : List ByteArray) : (sdL l).length ≤ l.length := by
  obtain ⟨h1, h2⟩ := sdL_spec l
  exact List.Nodup.length_le_of_subset (nodup_lt h1) fun x hx => (h2 x).1 hx
theorem wrap64_I64 (n : Int) : I64 (wrap64 n) := by unfold I64 wrap64; constructor <;> omega
set_option maxHeartbeats 8000000 in
theorem spec15_any (l : List Ev) (path : List ByteArray) (vl vp : Value) (w : World) (hl : EvL w vl l) (hp : SlP w w.heap.size 1 StE vp path) (hN : ∀ x ∈ l, x.seen.length ≤ 900000) (hL : l.length ≤ 1000) (hP : pathI path = 0) :
    Calls Tryz.prog 42 #[vl, vp] w fun e w' => ∃ vL, e = .returned (.agg #[.int .i64 (specV l path).kind, .bool (specV l path).on, .int .i64 (specV l path).n, vL]) ∧ SlA w' (fun b => w.heap.size ≤ b ∧ b < w'.heap.size) 1 StE vL (specV l path).l ∧ Below w.heap.size w w' := by
  have HL0 := hid hl
  have HPP : Hid (∀ w', Below w.heap.size w w' → SlP w' w'.heap.size 1 StE vp path) := fun w' hb => hp.imp hb hb.size fun _ _ _ h => h
  obtain ⟨A, n, rfl, b1, b2, _⟩ := hl
  unfold Big at b2
  obtain ⟨Ap, np, rfl, p1, p2, p3⟩ := hp
  unfold Big at p2
  obtain ⟨hpl, hpu, _, _⟩ := path_ok hP
  obtain ⟨hk1, hk2⟩ := path_kind hP
  obtain ⟨K, HKE⟩ : ∃ K, Hid (kindB (lastK path) = K) := ⟨_, rfl⟩
  rw [HKE.out] at hk1 hk2
  have HSV : Hid (specV l path = ⟨K, (specK l path l.length).1, (specK l path l.length).2.1, sdL (specK l path l.length).2.2⟩) := by
    unfold Hid specV specK specF
    rw [List.take_of_length_le (Nat.le_refl _), HKE.out]
  obtain ⟨bq, offq, hAq, hbq, hcq⟩ := p3 (by rintro rfl; simp at hpl)
  subst hAq
  obtain ⟨cs, ⟨rfl, hkok⟩, _, hku⟩ := hcq (path.length - 1) _ (last_at hpl)
  have hb0 : Below w.heap.size w (w.alloc (.cells #[.int .i64 0, .bool false, .int .i64 0, .slice none 0 0] 72)) := (Below.refl _ w).alloc (Nat.le_refl _) _
  have e0 : (w.alloc (.cells #[.int .i64 0, .bool false, .int .i64 0, .slice none 0 0] 72)).cell? ⟨bq, offq + (path.length - 1), none⟩ = some (.string (lastK path)) := (hb0.cell hbq).trans (by simpa using hku 0 _ rfl)
  have HX : Hid (∀ W, Below (w.heap.size + 1) (w.alloc (.cells #[.int .i64 0, .bool false, .int .i64 0, .slice none 0 0] 72)) W → (Below w.heap.size w W ∧ W.heap[w.heap.size]? = some (.cells #[.int .i64 0, .bool false, .int .i64 0, .slice none 0 0] 72 (0, 0)))) := fun W hW =>
    ⟨hb0.trans (hW.mono (by omega)), (hW.block w.heap.size (by omega)).trans (heap_new rfl)⟩
  clear hku hcq p3 hb0
  go_enter Tryz.func42, Tryz.ntmps42
  go_wp2_with fail
  refine (r15kind_any (lastK path) _ hkok).mono ?_
  rw [HKE.out]
  rintro e w1 ⟨rfl, hb1⟩
  have HB1 := hid (hb1.mono (show w.heap.size + 1 ≤ _ by simp))
  have hs1 := HB1.out.size
  simp only [World.size_alloc] at hs1
  have hbv0 : Below (w.heap.size + 1) (w.alloc (.cells #[.int .i64 0, .bool false, .int .i64 0, .slice none 0 0] 72)) (w1.alloc (.cells #[.int .i64 K, .bool false, .int .i64 0, .slice none 0 0] 72)) := HB1.out.alloc hs1 _
  have hg0 : (w1.alloc (.cells #[.int .i64 K, .bool false, .int .i64 0, .slice none 0 0] 72)).heap[w1.heap.size]? = some (.cells #[.int .i64 K, .bool false, .int .i64 0, .slice none 0 0] 72 (0, 0)) := heap_new rfl
  clear hb1 e0
  go_wp2_with fail
  go_loopw [6, 19] (fun v i wr => ∃ k : Nat, k ≤ l.length ∧ i = .int .i64 k ∧ OwnP wr (w1.heap.size + 1) 9 1 StE v (specK l path k).2.2 ∧ wr.heap[w1.heap.size]? = some (.cells #[.int .i64 K, .bool (specK l path k).1, .int .i64 (specK l path k).2.1, .slice none 0 0] 72 (0, 0)) ∧ I64 (specK l path k).2.1 ∧ Below (w.heap.size + 1) (w.alloc (.cells #[.int .i64 0, .bool false, .int .i64 0, .slice none 0 0] 72)) wr) (fun _ i _ => l.length - (intOf i).toNat)
  case atStart => exact ⟨0, Nat.zero_le _, rfl, OwnP.nil, hg0, by unfold specK I64; simp, hbv0⟩
  case round =>
    clear hbv0 hg0
    obtain ⟨k, hk, rfl, hown, hgv, hI, hb⟩ := hrel
    have hsr := hb.size
    simp only [World.size_alloc] at hsr
    obtain ⟨hB, gz⟩ := HX.out wr hb
    have hgl := lt_of_block hgv
    have HBR := hid hb
    clear hb
    by_cases hlt : k < l.length
    · obtain ⟨x, hx⟩ : ∃ x, l[k]? = some x := ⟨_, List.getElem?_eq_getElem hlt⟩
      have HSU := hid (specK_succ hx path)
      have HN := hid hN
      obtain ⟨son, sn, st, hS⟩ : ∃ a b c, specK l path k = (a, b, c) := ⟨_, _, _, rfl⟩
      have hlen := specK_len l path k
      rw [hS] at hown hgv hI hlen
      have HS := hid hS
      simp only at hown hgv hI hlen
      obtain ⟨b, off, A5, c5, A6, c6, rfl, hbB, hpx, hsx, hdx, hox, hu⟩ := EvL.at HL0.out hx
      have HU := hid hu
      obtain ⟨⟨xd, xn⟩, ⟨xp, xa, xs, xnn⟩, xseen⟩ := x
      simp only at hpx hsx hdx hox hu HU
      obtain ⟨Axx, nxx, hvx, xp1, xp2, xp3⟩ := id hpx
      cases hvx
      unfold Big at xp2
      have hwb : b < wr.heap.size := by omega
      -- the change's box
      have HY : Hid (∀ W, Below (wr.heap.size + 1) (wr.alloc (.cells #[.slice A5 xp.length c5, .int .i64 xa, .string xs, .int .i64 xnn] 67)) W → (Below wr.heap.size wr W ∧ W.cell? ⟨wr.heap.size, 0, none⟩ = some (.slice A5 xp.length c5) ∧ W.cell? ⟨wr.heap.size, 2, none⟩ = some (.string xs) ∧ W.cell? ⟨wr.heap.size, 3, none⟩ = some (.int .i64 xnn) ∧ W.heap[w1.heap.size]? = some (.cells #[.int .i64 K, .bool son, .int .i64 sn, .slice none 0 0] 72 (0, 0)) ∧ SlP W W.heap.size 1 StE (.slice A5 xp.length c5) xp ∧ SlP W W.heap.size 1 StE (.slice (some ⟨bq, offq, none⟩) path.length np) path)) := fun W hW => by
        have g := (hW.block wr.heap.size (by omega)).trans (heap_new rfl)
        have hB2 : Below wr.heap.size wr W := ((Below.refl _ wr).alloc (Nat.le_refl _) _).trans (hW.mono (by omega))
        have hBw := hB.trans (hB2.mono (by omega))
        exact ⟨hB2, cell_cells (i := 0) g, cell_cells (i := 2) g, cell_cells (i := 3) g, (hB2.block _ hgl).trans hgv, hpx.imp hBw hBw.size fun _ _ _ h => h, HPP.out W hBw⟩
      have HHX := hid hx
      have HSX := hid hsx
      have HPX := hid hpx
      have HOX := hid hox
      have HDX := hid hdx
      have HBW := hid hB
      have HGV := hid hgv
      have hi1 : ((k : Int)) < (l.length : Int) := by omega
      obtain ⟨e0, e1, e2, e3, e4, e5, e6⟩ := hu wr hB
      clear hu hx hpx hsx hdx hox hB hgv gz
      go_wp2_with fail
      obtain ⟨hB2, y0, y2, y3, gv, rxp, rp⟩ := HY.out _ (Below.refl _ _)
      refine (begins_any xp path _ _ _ _ rxp rp).mono ?_
      cases hbg : begB xp path
      · have HX1 : Hid (specK l path (k + 1) = (son, sn, st)) := by unfold Hid; rw [HSU.out, HS.out]; unfold takB; simp [hbg]
        rintro r w2 ⟨rfl, hb2⟩
        have HB2 := hid (hb2.mono (show wr.heap.size + 1 ≤ _ by simp))
        have HO2 := hid (hown.grow (HY.out _ HB2.out).1)
        clear e0 e1 e2 e3 e4 e5 e6 hB2 y0 y2 y3 gv rxp rp hb2 hbg hown
        obtain ⟨hB2, y0, y2, y3, gv, rxp, rp⟩ := HY.out _ HB2.out
        have HGV2 := hid gv
        have HB3 := hid (HBR.out.trans (hB2.mono (by first | omega | (simp; omega))))
        clear hB2 y0 y2 y3 gv rxp rp
        go_wp2_with fail
        go_roundw
        case rel => exact ⟨k + 1, by omega, by go_num, by rw [HX1.out]; exact HO2.out, by rw [HX1.out]; exact HGV2.out, by rw [HX1.out]; exact hI, HB3.out⟩
        case measure => simp [intOf]; omega
      rintro r w2 ⟨rfl, hb2⟩
      have HB2 := hid (hb2.mono (show wr.heap.size + 1 ≤ _ by simp))
      have HO2 := hid (hown.grow (HY.out _ HB2.out).1)
      clear e0 e1 e2 e3 e4 e5 e6 hB2 y0 y2 y3 gv rxp rp hb2 hown
      obtain ⟨hB2, y0, y2, y3, gv, rxp, rp⟩ := HY.out _ HB2.out
      have HBW2 := hid (HBW.out.trans (hB2.mono (by omega)))
      obtain ⟨e0, e1, e2, e3, e4, e5, e6⟩ := HU.out w2 HBW2.out
      have hs2 := hB2.size
      go_wp2_with fail
      refine (stands_any l ⟨⟨xd, xn⟩, ⟨xp, xa, xs, xnn⟩, xseen⟩ _ _ _ w2 (HL0.out.up HBW2.out) (HPX.out.imp HBW2.out HBW2.out.size fun _ _ _ h => h) (HSX.out.imp HBW2.out HBW2.out.size fun _ _ _ h => h) HN.out).mono ?_
      cases hst : standB l ⟨⟨xd, xn⟩, ⟨xp, xa, xs, xnn⟩, xseen⟩
      · have HX1 : Hid (specK l path (k + 1) = (son, sn, st)) := by unfold Hid; rw [HSU.out, HS.out]; unfold takB; simp [hst]
        rintro r w3 ⟨rfl, hb3⟩
        have HB3 := hid (HB2.out.trans (hb3.mono (by have := HB2.out.size; simp at this; omega)))
        have HO3 := hid (HO2.out.grow hb3)
        clear e0 e1 e2 e3 e4 e5 e6 hB2 y0 y2 y3 gv rxp rp hb3 hst hbg HO2
        obtain ⟨hB2, y0, y2, y3, gv, rxp, rp⟩ := HY.out _ HB3.out
        have HGV2 := hid gv
        have HB4 := hid (HBR.out.trans (hB2.mono (by first | omega | (simp; omega))))
        clear hB2 y0 y2 y3 gv rxp rp
        go_wp2_with fail
        go_roundw
        case rel => exact ⟨k + 1, by omega, by go_num, by rw [HX1.out]; exact HO3.out, by rw [HX1.out]; exact HGV2.out, by rw [HX1.out]; exact hI, HB4.out⟩
        case measure => simp [intOf]; omega
      rintro r w3 ⟨rfl, hb3⟩
      have HX1 : Hid (specK l path (k + 1) = stepS K path (son, sn, st) ⟨⟨xd, xn⟩, ⟨xp, xa, xs, xnn⟩, xseen⟩) := by unfold Hid; rw [HSU.out, HS.out, HKE.out]; unfold takB; simp [hst, hbg]
      have HB3 := hid (HB2.out.trans (hb3.mono (by have := HB2.out.size; simp at this; omega)))
      have HO3 := hid (HO2.out.grow hb3)
      have hs3 := HB3.out.size
      simp only [World.size_alloc] at hs3
      clear e0 e1 e2 e3 e4 e5 e6 hB2 y0 y2 y3 gv rxp rp hb3 hst hbg HO2 HSU HS
      obtain ⟨hB2, y0, y2, y3, gv, rxp, rp⟩ := HY.out _ HB3.out
      have HBW3 := hid (HBW.out.trans (hB2.mono (by omega)))
      have HB4 := hid (HBR.out.trans (hB2.mono (by first | omega | (simp; omega))))
      have HGV3 := hid gv
      have HLF : Hid (st.length + 1 ≤ Few) := by unfold Hid Few; omega
      by_cases hgt : path.length < xp.length
      · have egt : decide ((path.length : Int) < (xp.length : Int)) = true := by simpa using hgt
        obtain ⟨key, hkey⟩ : ∃ key, xp[path.length]? = some key := ⟨_, List.getElem?_eq_getElem hgt⟩
        obtain ⟨bx, ox, hAx, hbx, hcx⟩ := xp3 (by rintro rfl; simp at hgt)
        subst hAx
        obtain ⟨ds, ⟨rfl, hkk⟩, _, hkv⟩ := hcx path.length _ hkey
        have k0 : w3.cell? ⟨bx, ox + path.length, none⟩ = some (.string key) := (HBW3.out.cell hbx).trans (by simpa using hkv 0 _ rfl)
        have HX2 : Hid (specK l path (k + 1) = (son, sn, st ++ [key])) := by unfold Hid; rw [HX1.out]; unfold stepS; simp only; rw [if_pos hgt, hkey]; rfl
        have HKY : Hid (StE key [.string key]) := ⟨rfl, hkk⟩
        have hgt2 : (path.length : Int) < (xp.length : Int) := by omega
        have hown3 := HO3.out
        clear hcx hkv hkey hB2 gv rxp rp HX1
        go_wp2_with (at_builtin; go_loud ((with_reducible refine wpList_few rfl (.tmp 47) (.tmp 54) _ rfl eiStr (by decide) (by decide) (fun _ _ h => StE.one h) rfl (hown3.alloc _) rfl (SlP.one (x := key) HKY.out rfl _ rfl) HLF.out (by rw [World.size_alloc]; omega) ?_); intro v4 w4 hown4 hb4 _))
        have hb5 : Below (w1.heap.size + 1) w3 w4 := ((Below.refl (w1.heap.size + 1) w3).alloc (by omega) _).trans hb4
        go_roundw
        case rel => exact ⟨k + 1, by omega, by go_num, by rw [HX2.out]; exact hown4, by rw [HX2.out]; exact (hb5.block w1.heap.size (by omega)).trans HGV3.out, by rw [HX2.out]; exact hI, HB4.out.trans (hb5.mono (by omega))⟩
        case measure => simp [intOf]; omega
      have egt : decide ((path.length : Int) < (xp.length : Int)) = false := by simp; omega
      have HX3 : Hid (specK l path (k + 1) = if K = 1 then (true, sn, st) else if K = 2 ∨ K = 4 then (son, sn, st ++ [xs]) else if K = 3 then (son, wrap64 (sn + xnn), st) else (son, sn, st)) := by unfold Hid; rw [HX1.out]; unfold stepS; simp only; rw [if_neg hgt]
      have HKS : Hid (StE xs [.string xs]) := ⟨rfl, HOX.out.s⟩
      have hown3 := HO3.out
      have hi3 : ¬ ((path.length : Int) < (xp.length : Int)) := by omega
      clear hB2 rxp rp HX1
      have v0 := cell_cells (i := 0) gv
      have v1 := cell_cells (i := 1) gv
      have v2 := cell_cells (i := 2) gv
      have v3 := cell_cells (i := 3) gv
      simp only [List.getElem?_toArray, List.getElem?_cons_zero, List.getElem?_cons_succ] at v0 v1 v2 v3
      have u0 := cells_frz (i := 0) gv
      have u1 := cells_frz (i := 1) gv
      have u2 := cells_frz (i := 2) gv
      have u3 := cells_frz (i := 3) gv
      rcases (show K = 1 ∨ K = 2 ∨ K = 3 ∨ K = 4 ∨ K = 5 by omega) with rfl | rfl | rfl | rfl | rfl
      · have HX2 : Hid (specK l path (k + 1) = (true, sn, st)) := by unfold Hid; rw [HX3.out]; simp
        have hgs := hid (cells_set (i := 1) gv (.bool true))
        clear gv
        go_wp2_with fail
        go_roundw
        case rel => exact ⟨k + 1, by omega, by go_num, by rw [HX2.out]; exact hown3.keep fun g hg => Below.heap_setCell _ _ _ _ (by have := (hown3.lt g hg).1; simp; omega), by rw [HX2.out]; simpa using hgs.out, by rw [HX2.out]; exact hI, HB4.out.setCell (p := ⟨w1.heap.size, 1, none⟩) (by first | omega | (simp; omega)) _⟩
        case measure => simp [intOf]; omega
      · have HX2 : Hid (specK l path (k + 1) = (son, sn, st ++ [xs])) := by unfold Hid; rw [HX3.out]; simp
        clear gv
        go_wp2_with (at_builtin; go_loud ((with_reducible refine wpList_few rfl (.tmp 64) (.tmp 67) _ rfl eiStr (by decide) (by decide) (fun _ _ h => StE.one h) rfl (hown3.alloc _) rfl (SlP.one (x := xs) HKS.out rfl _ rfl) HLF.out (by rw [World.size_alloc]; omega) ?_); intro v4 w4 hown4 hb4 _))
        have hb5 : Below (w1.heap.size + 1) w3 w4 := ((Below.refl (w1.heap.size + 1) w3).alloc (by omega) _).trans hb4
        go_roundw
        case rel => exact ⟨k + 1, by omega, by go_num, by rw [HX2.out]; exact hown4, by rw [HX2.out]; exact (hb5.block w1.heap.size (by omega)).trans HGV3.out, by rw [HX2.out]; exact hI, HB4.out.trans (hb5.mono (by omega))⟩
        case measure => simp [intOf]; omega
      · have HX2 : Hid (specK l path (k + 1) = (son, wrap64 (sn + xnn), st)) := by unfold Hid; rw [HX3.out]; simp
        have hgs := hid (cells_set (i := 2) gv (.int .i64 (wrap64 (sn + xnn))))
        clear gv
        go_wp2_with fail
        go_roundw
        case rel => exact ⟨k + 1, by omega, by go_num, by rw [HX2.out]; exact hown3.keep fun g hg => Below.heap_setCell _ _ _ _ (by have := (hown3.lt g hg).1; simp; omega), by rw [HX2.out]; simpa using hgs.out, by rw [HX2.out]; exact wrap64_I64 _, HB4.out.setCell (p := ⟨w1.heap.size, 2, none⟩) (by first | omega | (simp; omega)) _⟩
        case measure => simp [intOf]; omega
      · have HX2 : Hid (specK l path (k + 1) = (son, sn, st ++ [xs])) := by unfold Hid; rw [HX3.out]; simp
        clear gv
        go_wp2_with (at_builtin; go_loud ((with_reducible refine wpList_few rfl (.tmp 64) (.tmp 67) _ rfl eiStr (by decide) (by decide) (fun _ _ h => StE.one h) rfl (hown3.alloc _) rfl (SlP.one (x := xs) HKS.out rfl _ rfl) HLF.out (by rw [World.size_alloc]; omega) ?_); intro v4 w4 hown4 hb4 _))
        have hb5 : Below (w1.heap.size + 1) w3 w4 := ((Below.refl (w1.heap.size + 1) w3).alloc (by omega) _).trans hb4
        go_roundw
        case rel => exact ⟨k + 1, by omega, by go_num, by rw [HX2.out]; exact hown4, by rw [HX2.out]; exact (hb5.block w1.heap.size (by omega)).trans HGV3.out, by rw [HX2.out]; exact hI, HB4.out.trans (hb5.mono (by omega))⟩
        case measure => simp [intOf]; omega
      · have HX2 : Hid (specK l path (k + 1) = (son, sn, st)) := by unfold Hid; rw [HX3.out]; simp
        clear gv
        go_wp2_with fail
        go_roundw
        case rel => exact ⟨k + 1, by omega, by go_num, by rw [HX2.out]; exact hown3, by rw [HX2.out]; exact HGV3.out, by rw [HX2.out]; exact hI, HB4.out⟩
        case measure => simp [intOf]; omega
    · obtain rfl : k = l.length := by omega
      have hlen := specK_len l path l.length
      obtain ⟨son, sn, st, hS⟩ : ∃ a b c, specK l path l.length = (a, b, c) := ⟨_, _, _, rfl⟩
      rw [hS] at hown hgv hI hlen HSV
      simp only at hown hgv hI hlen HSV
      have hsl := hown.sl (by unfold Big; omega)
      have hgt0 : wr.heap.size ≤ wr.heap.size := Nat.le_refl _
      have gv := hgv
      have v0 := cell_cells (i := 0) gv
      have v1 := cell_cells (i := 1) gv
      have v2 := cell_cells (i := 2) gv
      have v3 := cell_cells (i := 3) gv
      simp only [List.getElem?_toArray, List.getElem?_cons_zero, List.getElem?_cons_succ] at v0 v1 v2 v3
      have u0 := cells_frz (i := 0) gv
      have u1 := cells_frz (i := 1) gv
      have u2 := cells_frz (i := 2) gv
      have u3 := cells_frz (i := 3) gv
      have HGV := hid gv
      have HGZ := hid gz
      have HBW := hid hB
      clear gv gz hB hgv
      go_wp2_with fail
      refine (r10sorted_any st _ _ hsl (by omega)).mono ?_
      rintro e w5 ⟨vL, rfl, ho5, hb5⟩
      obtain ⟨Av, nv, rfl⟩ := ho5.shape
      have hsd : (sdL st).length ≤ st.length := sdL_len st
      have HSL := hid (OwnP.sla ho5 (by unfold Big; omega))
      have hs5 := hb5.size
      have HBW5 := hid (HBW.out.trans (hb5.mono (by omega)))
      have gv := (hb5.block w1.heap.size hgl).trans HGV.out
      have gz := (hb5.block w.heap.size (by omega)).trans HGZ.out
      have HG5 := hid gv
      have HZ5 := hid gz
      clear v0 v1 v2 v3 u0 u1 u2 u3 hsl ho5 hb5
      have v0 := cell_cells (i := 0) gv
      have v1 := cell_cells (i := 1) gv
      have v2 := cell_cells (i := 2) gv
      have v3 := cell_cells (i := 3) gv
      simp only [List.getElem?_toArray, List.getElem?_cons_zero, List.getElem?_cons_succ] at v0 v1 v2 v3
      have u0 := cells_frz (i := 0) gv
      have u1 := cells_frz (i := 1) gv
      have u2 := cells_frz (i := 2) gv
      have u3 := cells_frz (i := 3) gv
      have k0 := cell_cells (i := 0) gz
      have k1 := cell_cells (i := 1) gz
      have k2 := cell_cells (i := 2) gz
      have k3 := cell_cells (i := 3) gz
      simp only [List.getElem?_toArray, List.getElem?_cons_zero, List.getElem?_cons_succ] at k0 k1 k2 k3
      have z0 := cells_frz (i := 0) gz
      have z1 := cells_frz (i := 1) gz
      have z2 := cells_frz (i := 2) gz
      have z3 := cells_frz (i := 3) gz
      have hne1 : w1.heap.size ≠ w.heap.size := by omega
      have hne2 : w.heap.size ≠ w1.heap.size := by omega
      clear gv gz
      go_wp2_with fail
      have HG6 : (w5.setCell ⟨w1.heap.size, 3, none⟩ (.slice Av (sdL st).length nv)).heap[w.heap.size]? = some (.cells #[.int .i64 0, .bool false, .int .i64 0, .slice none 0 0] 72 (0, 0)) := (Below.heap_setCell _ _ _ _ (by first | omega | (simp; omega))).trans HZ5.out
      have hS6 : (w5.setCell ⟨w1.heap.size, 3, none⟩ (.slice Av (sdL st).length nv)).heap.size = w5.heap.size := by simp [World.setCell]
      obtain ⟨r0, r1, r2, r3, hK, hSz⟩ := box4 HG6 (.int .i64 K) (.bool son) (.int .i64 sn) (.slice Av (sdL st).length nv)
      have hBB := below_box4 (HBW5.out.setCell (p := ⟨w1.heap.size, 3, none⟩) (by first | omega | (simp; omega)) (.slice Av (sdL st).length nv)) (show w.heap.size ≤ w.heap.size by omega) (.int .i64 K) (.bool son) (.int .i64 sn) (.slice Av (sdL st).length nv)
      exact bodyPost_ret (v := .agg #[.int .i64 K, .bool son, .int .i64 sn, .slice Av (sdL st).length nv]) (by simp [results, Tryz.results42, go_sem, r0, r1, r2, r3] <;> rfl) rfl ⟨_, by rw [HSV.out], by
        rw [HSV.out]
        exact HSL.out.up (fun b hb => (hK b (by have := hb.1; omega)).trans (Below.heap_setCell _ _ _ _ (by have := hb.1; simp; omega))) (fun b hb => ⟨by have := hb.1; omega, by rw [hSz, hS6]; exact hb.2.1⟩) (fun _ _ _ h => h), hBB⟩
end Go.Proofs.YtlapdmgjfdelnaaGreat
