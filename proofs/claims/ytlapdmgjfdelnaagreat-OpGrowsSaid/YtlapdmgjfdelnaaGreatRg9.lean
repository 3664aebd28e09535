/- What the laws need, part 9: op.leaf: what changes at a path's end. Condition: not too big. tributarylaw09.small and right, at one and at two. No condition. Lists of what is known, in a block. No condition. tributaryref10.Own. No condition but that there are not too many entries. Plain law: the context of one dot more. No condition. What is read at once behind a change: plain. What is read hangs on no name of a change: plain. A go: its ground, its changes, and what they have made of it: plain. op.Read, op.Same. Condition: not too big. op.Same, tributaryref15.Same, begins, undoes; slices.Equal at texts. No condition. tributaryref15.stands, Visible, Short. Condition: not too many. tributaryref15.Read. Condition: not too big. tributaryref15.Spec. Condition: not too many; a right path. op.Apply. Condition: not too big. -/
import Derived.Deep.CutBlock
import Derived.Test.YtlapdmgjfdelnaaGreatRg8
namespace Go.Proofs.YtlapdmgjfdelnaaGreat
open Go.RowKit
set_option maxRecDepth 100000

/-- A result box of its own, filled with what a call handed back. -/
theorem box_fin {w w1 : World} {N g : Nat} {T : Tr} {C : List Sp} {x y z a b c : Value} {e : TypeId} (hG : w1.heap[g]? = some (.cells #[x, y, z] e (0, 0))) (hB : Below w.heap.size w w1) (hg : w.heap.size ≤ g) (hN : g < N) (hrd : T.rda w1 (fun b => N ≤ b ∧ b < w1.heap.size) a b) (hsl : SlA w1 (fun b => N ≤ b ∧ b < w1.heap.size) 3 SpE c C) :
    (((w1.setCell ⟨g, 0, none⟩ a).setCell ⟨g, 1, none⟩ b).setCell ⟨g, 2, none⟩ c).cell? ⟨g, 0, none⟩ = some a ∧ (((w1.setCell ⟨g, 0, none⟩ a).setCell ⟨g, 1, none⟩ b).setCell ⟨g, 2, none⟩ c).cell? ⟨g, 1, none⟩ = some b ∧ (((w1.setCell ⟨g, 0, none⟩ a).setCell ⟨g, 1, none⟩ b).setCell ⟨g, 2, none⟩ c).cell? ⟨g, 2, none⟩ = some c ∧
    T.rda (((w1.setCell ⟨g, 0, none⟩ a).setCell ⟨g, 1, none⟩ b).setCell ⟨g, 2, none⟩ c) (fun q => w.heap.size ≤ q ∧ q < (((w1.setCell ⟨g, 0, none⟩ a).setCell ⟨g, 1, none⟩ b).setCell ⟨g, 2, none⟩ c).heap.size) a b ∧
    SlA (((w1.setCell ⟨g, 0, none⟩ a).setCell ⟨g, 1, none⟩ b).setCell ⟨g, 2, none⟩ c) (fun q => w.heap.size ≤ q ∧ q < (((w1.setCell ⟨g, 0, none⟩ a).setCell ⟨g, 1, none⟩ b).setCell ⟨g, 2, none⟩ c).heap.size) 3 SpE c C ∧
    Below w.heap.size w (((w1.setCell ⟨g, 0, none⟩ a).setCell ⟨g, 1, none⟩ b).setCell ⟨g, 2, none⟩ c) := by
  obtain ⟨r0, r1, r2, hK, hS⟩ := box3 hG a b c
  have hBW := ((hB.setCell (p := ⟨g, 0, none⟩) hg a).setCell (p := ⟨g, 1, none⟩) hg b).setCell (p := ⟨g, 2, none⟩) hg c
  exact ⟨r0, r1, r2, rda_up (fun q hq => hK q (by omega)) (fun q hq => ⟨by omega, by rw [hS]; exact hq.2⟩) _ _ _ hrd, hsl.up (fun q hq => hK q (by omega)) (fun q hq => ⟨by omega, by rw [hS]; exact hq.2⟩) (fun _ _ _ h => h), hBW⟩
set_option maxHeartbeats 4000000 in
theorem leaf_any (u : Tr) (o : Opr) (d : Dt) (ve vk vp : Value) (w : World) (h : u.rd w w.heap.size ve vk) (hp : SlP w w.heap.size 1 StE vp o.path) (ho : o.Ok) (hd : d.Ok) (hN : u.sz ≤ 4000) :
    Calls Tryz.prog 138 #[.agg #[ve, vk], .agg #[vp, .int .i64 o.act, .string o.s, .int .i64 o.n], .agg #[.int .i64 d.dc, .int .i64 d.n]] w (RetCE w (leafX u o d).1 (leafX u o d).2.1 (leafX u o d).2.2) := by
  have HC : Hid (∀ w', Below w.heap.size w w' → u.rd w' w'.heap.size ve vk) := fun w' hb => rd_below hb hb.size _ _ _ h
  obtain ⟨A3, n3, A4, n4, rfl, rfl⟩ := rd_shape h
  obtain ⟨A5, n5, rfl, _⟩ := hp
  obtain ⟨oa, on, os⟩ := ho
  obtain ⟨path, act, s, n⟩ := o
  simp only at oa on os ⊢
  have hb0 := ((((Below.refl w.heap.size w).alloc (Nat.le_refl _) (.cells #[.slice A3 u.es.length n3, .slice A4 u.ks.length n4] 25)).alloc (by simp) (.cells #[.slice A5 path.length n5, .int .i64 act, .string s, .int .i64 n] 67)).alloc (by simp; omega) (.cells #[.int .i64 d.dc, .int .i64 d.n] 52)).alloc (by simp; omega) (.cells #[.slice none 0 0, .slice none 0 0, .slice none 0 0] 29)
  have HX : Hid (∀ W, Below (w.heap.size + 4) ((((w.alloc (.cells #[.slice A3 u.es.length n3, .slice A4 u.ks.length n4] 25)).alloc (.cells #[.slice A5 path.length n5, .int .i64 act, .string s, .int .i64 n] 67)).alloc (.cells #[.int .i64 d.dc, .int .i64 d.n] 52)).alloc (.cells #[.slice none 0 0, .slice none 0 0, .slice none 0 0] 29)) W →
      (Below w.heap.size w W ∧ W.cell? ⟨w.heap.size, 0, none⟩ = some (.slice A3 u.es.length n3) ∧ W.cell? ⟨w.heap.size, 1, none⟩ = some (.slice A4 u.ks.length n4) ∧ W.cell? ⟨w.heap.size + 1, 0, none⟩ = some (.slice A5 path.length n5) ∧ W.cell? ⟨w.heap.size + 1, 1, none⟩ = some (.int .i64 act) ∧ W.cell? ⟨w.heap.size + 1, 2, none⟩ = some (.string s) ∧ W.cell? ⟨w.heap.size + 1, 3, none⟩ = some (.int .i64 n) ∧
        W.cell? ⟨w.heap.size + 2, 0, none⟩ = some (.int .i64 d.dc) ∧ W.cell? ⟨w.heap.size + 2, 1, none⟩ = some (.int .i64 d.n) ∧ W.heap[w.heap.size + 3]? = some (.cells #[.slice none 0 0, .slice none 0 0, .slice none 0 0] 29 (0, 0)))) := fun W hW => by
    have g0 : W.heap[w.heap.size]? = some (.cells #[.slice A3 u.es.length n3, .slice A4 u.ks.length n4] 25 (0, 0)) := (hW.block _ (by omega)).trans ((heap_old (by simp <;> omega)).trans ((heap_old (by simp <;> omega)).trans ((heap_old (by simp)).trans (heap_new rfl))))
    have g1 : W.heap[w.heap.size + 1]? = some (.cells #[.slice A5 path.length n5, .int .i64 act, .string s, .int .i64 n] 67 (0, 0)) := (hW.block _ (by omega)).trans ((heap_old (by simp <;> omega)).trans ((heap_old (by simp)).trans (heap_new (by simp))))
    have g2 : W.heap[w.heap.size + 2]? = some (.cells #[.int .i64 d.dc, .int .i64 d.n] 52 (0, 0)) := (hW.block _ (by omega)).trans ((heap_old (by simp)).trans (heap_new (by simp)))
    have g3 : W.heap[w.heap.size + 3]? = some (.cells #[.slice none 0 0, .slice none 0 0, .slice none 0 0] 29 (0, 0)) := (hW.block _ (by omega)).trans (heap_new (by simp))
    exact ⟨hb0.trans (hW.mono (by omega)), cell_cells (i := 0) g0, cell_cells (i := 1) g0, cell_cells (i := 0) g1, cell_cells (i := 1) g1, cell_cells (i := 2) g1, cell_cells (i := 3) g1, cell_cells (i := 0) g2, cell_cells (i := 1) g2, g3⟩
  clear h
  by_cases a1 : act = 1
  · subst a1
    rw [leafX_1 rfl]
    go_enter Tryz.func138, Tryz.ntmps138
    obtain ⟨hB0, c0, c1, p0, p1, p2, p3, d0, d1, g3⟩ := HX.out _ (Below.refl _ _)
    clear g3
    go_wp2_with fail
    refine (fenable_any u d _ _ _ (HC.out _ hb0) (by omega) hd).mono ?_
    rintro e w1 ⟨ve1, vk1, vc1, rfl, hrd1, hsl1, hb1⟩
    obtain ⟨Av, nv, Aw, nw, rfl, rfl⟩ := rda_shape hrd1
    obtain ⟨Ac, nc, rfl⟩ := hsl1.shape
    simp only [World.size_alloc] at hrd1 hsl1 hb1
    have hBx : Below (w.heap.size + 4) _ w1 := hb1.mono (by omega)
    clear c0 c1 p0 p1 p2 p3 d0 d1
    obtain ⟨hB1, c0, c1, p0, p1, p2, p3, d0, d1, hG⟩ := HX.out _ hBx
    have HG := hid hG
    have k0 := cell_cells (i := 0) hG
    have k1 := cell_cells (i := 1) hG
    have k2 := cell_cells (i := 2) hG
    simp only [List.getElem?_toArray, List.getElem?_cons_zero, List.getElem?_cons_succ] at k0 k1 k2
    have z0 := cells_frz (i := 0) hG
    have z1 := cells_frz (i := 1) hG
    have z2 := cells_frz (i := 2) hG
    have HR := hid hrd1
    have HS := hid hsl1
    have HB := hid hB1
    clear hrd1 hsl1 hb1 hBx hG hB1 c0 c1 p0 p1 p2 p3 d0 d1
    go_wp2_with fail
    obtain ⟨r0, r1, r2, q1, q2, q3⟩ := box_fin HG.out HB.out (by omega) (by omega) HR.out HS.out
    exact bodyPost_ret (v := .tuple #[.agg #[_, _, _], .int .i64 _]) (by simp [results, Tryz.results138, go_sem, r0, r1, r2] <;> rfl) rfl ⟨_, _, _, rfl, q1, q2, q3⟩
  by_cases a2 : act = 2
  · subst a2
    rw [leafX_2 rfl]
    go_enter Tryz.func138, Tryz.ntmps138
    obtain ⟨hB0, c0, c1, p0, p1, p2, p3, d0, d1, g3⟩ := HX.out _ (Below.refl _ _)
    clear g3
    go_wp2_with fail
    refine (fdisable_any u d _ _ _ (HC.out _ hb0) (by omega) hd).mono ?_
    rintro e w1 ⟨ve1, vk1, vc1, rfl, hrd1, hsl1, hb1⟩
    obtain ⟨Av, nv, Aw, nw, rfl, rfl⟩ := rda_shape hrd1
    obtain ⟨Ac, nc, rfl⟩ := hsl1.shape
    simp only [World.size_alloc] at hrd1 hsl1 hb1
    have hBx : Below (w.heap.size + 4) _ w1 := hb1.mono (by omega)
    clear c0 c1 p0 p1 p2 p3 d0 d1
    obtain ⟨hB1, c0, c1, p0, p1, p2, p3, d0, d1, hG⟩ := HX.out _ hBx
    have HG := hid hG
    have k0 := cell_cells (i := 0) hG
    have k1 := cell_cells (i := 1) hG
    have k2 := cell_cells (i := 2) hG
    simp only [List.getElem?_toArray, List.getElem?_cons_zero, List.getElem?_cons_succ] at k0 k1 k2
    have z0 := cells_frz (i := 0) hG
    have z1 := cells_frz (i := 1) hG
    have z2 := cells_frz (i := 2) hG
    have HR := hid hrd1
    have HS := hid hsl1
    have HB := hid hB1
    clear hrd1 hsl1 hb1 hBx hG hB1 c0 c1 p0 p1 p2 p3 d0 d1
    go_wp2_with fail
    obtain ⟨r0, r1, r2, q1, q2, q3⟩ := box_fin HG.out HB.out (by omega) (by omega) HR.out HS.out
    exact bodyPost_ret (v := .tuple #[.agg #[_, _, _], .int .i64 _]) (by simp [results, Tryz.results138, go_sem, r0, r1, r2] <;> rfl) rfl ⟨_, _, _, rfl, q1, q2, q3⟩
  by_cases a3 : act = 3
  · subst a3
    rw [leafX_3 rfl]
    go_enter Tryz.func138, Tryz.ntmps138
    obtain ⟨hB0, c0, c1, p0, p1, p2, p3, d0, d1, g3⟩ := HX.out _ (Below.refl _ _)
    clear g3
    go_wp2_with fail
    refine (sadd_any u s d _ _ _ (HC.out _ hb0) os (by omega) hd).mono ?_
    rintro e w1 ⟨ve1, vk1, vc1, rfl, hrd1, hsl1, hb1⟩
    obtain ⟨Av, nv, Aw, nw, rfl, rfl⟩ := rda_shape hrd1
    obtain ⟨Ac, nc, rfl⟩ := hsl1.shape
    simp only [World.size_alloc] at hrd1 hsl1 hb1
    have hBx : Below (w.heap.size + 4) _ w1 := hb1.mono (by omega)
    clear c0 c1 p0 p1 p2 p3 d0 d1
    obtain ⟨hB1, c0, c1, p0, p1, p2, p3, d0, d1, hG⟩ := HX.out _ hBx
    have HG := hid hG
    have k0 := cell_cells (i := 0) hG
    have k1 := cell_cells (i := 1) hG
    have k2 := cell_cells (i := 2) hG
    simp only [List.getElem?_toArray, List.getElem?_cons_zero, List.getElem?_cons_succ] at k0 k1 k2
    have z0 := cells_frz (i := 0) hG
    have z1 := cells_frz (i := 1) hG
    have z2 := cells_frz (i := 2) hG
    have HR := hid hrd1
    have HS := hid hsl1
    have HB := hid hB1
    clear hrd1 hsl1 hb1 hBx hG hB1 c0 c1 p0 p1 p2 p3 d0 d1
    go_wp2_with fail
    obtain ⟨r0, r1, r2, q1, q2, q3⟩ := box_fin HG.out HB.out (by omega) (by omega) HR.out HS.out
    exact bodyPost_ret (v := .tuple #[.agg #[_, _, _], .int .i64 _]) (by simp [results, Tryz.results138, go_sem, r0, r1, r2] <;> rfl) rfl ⟨_, _, _, rfl, q1, q2, q3⟩
  by_cases a4 : act = 4
  · subst a4
    rw [leafX_4 rfl]
    go_enter Tryz.func138, Tryz.ntmps138
    obtain ⟨hB0, c0, c1, p0, p1, p2, p3, d0, d1, g3⟩ := HX.out _ (Below.refl _ _)
    clear g3
    go_wp2_with fail
    refine (sdel_any u s d _ _ _ (HC.out _ hb0) os (by omega) hd).mono ?_
    rintro e w1 ⟨ve1, vk1, vc1, rfl, hrd1, hsl1, hb1⟩
    obtain ⟨Av, nv, Aw, nw, rfl, rfl⟩ := rda_shape hrd1
    obtain ⟨Ac, nc, rfl⟩ := hsl1.shape
    simp only [World.size_alloc] at hrd1 hsl1 hb1
    have hBx : Below (w.heap.size + 4) _ w1 := hb1.mono (by omega)
    clear c0 c1 p0 p1 p2 p3 d0 d1
    obtain ⟨hB1, c0, c1, p0, p1, p2, p3, d0, d1, hG⟩ := HX.out _ hBx
    have HG := hid hG
    have k0 := cell_cells (i := 0) hG
    have k1 := cell_cells (i := 1) hG
    have k2 := cell_cells (i := 2) hG
    simp only [List.getElem?_toArray, List.getElem?_cons_zero, List.getElem?_cons_succ] at k0 k1 k2
    have z0 := cells_frz (i := 0) hG
    have z1 := cells_frz (i := 1) hG
    have z2 := cells_frz (i := 2) hG
    have HR := hid hrd1
    have HS := hid hsl1
    have HB := hid hB1
    clear hrd1 hsl1 hb1 hBx hG hB1 c0 c1 p0 p1 p2 p3 d0 d1
    go_wp2_with fail
    obtain ⟨r0, r1, r2, q1, q2, q3⟩ := box_fin HG.out HB.out (by omega) (by omega) HR.out HS.out
    exact bodyPost_ret (v := .tuple #[.agg #[_, _, _], .int .i64 _]) (by simp [results, Tryz.results138, go_sem, r0, r1, r2] <;> rfl) rfl ⟨_, _, _, rfl, q1, q2, q3⟩
  by_cases a5 : act = 5
  · subst a5
    rw [leafX_5 rfl]
    go_enter Tryz.func138, Tryz.ntmps138
    obtain ⟨hB0, c0, c1, p0, p1, p2, p3, d0, d1, g3⟩ := HX.out _ (Below.refl _ _)
    clear g3
    go_wp2_with fail
    refine (cinc_any u n d _ _ _ (HC.out _ hb0) (by omega) on hd).mono ?_
    rintro e w1 ⟨ve1, vk1, vc1, rfl, hrd1, hsl1, hb1⟩
    obtain ⟨Av, nv, Aw, nw, rfl, rfl⟩ := rda_shape hrd1
    obtain ⟨Ac, nc, rfl⟩ := hsl1.shape
    simp only [World.size_alloc] at hrd1 hsl1 hb1
    have hBx : Below (w.heap.size + 4) _ w1 := hb1.mono (by omega)
    clear c0 c1 p0 p1 p2 p3 d0 d1
    obtain ⟨hB1, c0, c1, p0, p1, p2, p3, d0, d1, hG⟩ := HX.out _ hBx
    have HG := hid hG
    have k0 := cell_cells (i := 0) hG
    have k1 := cell_cells (i := 1) hG
    have k2 := cell_cells (i := 2) hG
    simp only [List.getElem?_toArray, List.getElem?_cons_zero, List.getElem?_cons_succ] at k0 k1 k2
    have z0 := cells_frz (i := 0) hG
    have z1 := cells_frz (i := 1) hG
    have z2 := cells_frz (i := 2) hG
    have HR := hid hrd1
    have HS := hid hsl1
    have HB := hid hB1
    clear hrd1 hsl1 hb1 hBx hG hB1 c0 c1 p0 p1 p2 p3 d0 d1
    go_wp2_with fail
    obtain ⟨r0, r1, r2, q1, q2, q3⟩ := box_fin HG.out HB.out (by omega) (by omega) HR.out HS.out
    exact bodyPost_ret (v := .tuple #[.agg #[_, _, _], .int .i64 _]) (by simp [results, Tryz.results138, go_sem, r0, r1, r2] <;> rfl) rfl ⟨_, _, _, rfl, q1, q2, q3⟩
  by_cases a6 : act = 6
  · subst a6
    rw [leafX_6 rfl]
    go_enter Tryz.func138, Tryz.ntmps138
    obtain ⟨hB0, c0, c1, p0, p1, p2, p3, d0, d1, g3⟩ := HX.out _ (Below.refl _ _)
    clear g3
    go_wp2_with fail
    refine (rwrite_any u s d _ _ _ (HC.out _ hb0) os (by omega) hd).mono ?_
    rintro e w1 ⟨ve1, vk1, vc1, rfl, hrd1, hsl1, hb1⟩
    obtain ⟨Av, nv, Aw, nw, rfl, rfl⟩ := rda_shape hrd1
    obtain ⟨Ac, nc, rfl⟩ := hsl1.shape
    simp only [World.size_alloc] at hrd1 hsl1 hb1
    have hBx : Below (w.heap.size + 4) _ w1 := hb1.mono (by omega)
    clear c0 c1 p0 p1 p2 p3 d0 d1
    obtain ⟨hB1, c0, c1, p0, p1, p2, p3, d0, d1, hG⟩ := HX.out _ hBx
    have HG := hid hG
    have k0 := cell_cells (i := 0) hG
    have k1 := cell_cells (i := 1) hG
    have k2 := cell_cells (i := 2) hG
    simp only [List.getElem?_toArray, List.getElem?_cons_zero, List.getElem?_cons_succ] at k0 k1 k2
    have z0 := cells_frz (i := 0) hG
    have z1 := cells_frz (i := 1) hG
    have z2 := cells_frz (i := 2) hG
    have HR := hid hrd1
    have HS := hid hsl1
    have HB := hid hB1
    clear hrd1 hsl1 hb1 hBx hG hB1 c0 c1 p0 p1 p2 p3 d0 d1
    go_wp2_with fail
    obtain ⟨r0, r1, r2, q1, q2, q3⟩ := box_fin HG.out HB.out (by omega) (by omega) HR.out HS.out
    exact bodyPost_ret (v := .tuple #[.agg #[_, _, _], .int .i64 _]) (by simp [results, Tryz.results138, go_sem, r0, r1, r2] <;> rfl) rfl ⟨_, _, _, rfl, q1, q2, q3⟩
  · have hX : leafX u ⟨path, act, s, n⟩ d = (.mk [] [], disC u d, chkI u d) := by unfold leafX; rw [if_neg a1, if_neg a2, if_neg a3, if_neg a4, if_neg a5, if_neg a6]
    rw [hX]
    have e1 : (act == 1) = false := by simpa using a1
    have e2 : (act == 2) = false := by simpa using a2
    have e3 : (act == 3) = false := by simpa using a3
    have e4 : (act == 4) = false := by simpa using a4
    have e5 : (act == 5) = false := by simpa using a5
    have e6 : (act == 6) = false := by simpa using a6
    go_enter Tryz.func138, Tryz.ntmps138
    obtain ⟨hB0, c0, c1, p0, p1, p2, p3, d0, d1, g3⟩ := HX.out _ (Below.refl _ _)
    clear g3
    go_wp2_with fail
    refine (oreset_any u d _ _ _ (HC.out _ hb0) (by omega) hd).mono ?_
    rintro e w1 ⟨ve1, vk1, vc1, rfl, hrd1, hsl1, hb1⟩
    obtain ⟨Av, nv, Aw, nw, rfl, rfl⟩ := rda_shape hrd1
    obtain ⟨Ac, nc, rfl⟩ := hsl1.shape
    simp only [World.size_alloc] at hrd1 hsl1 hb1
    have hBx : Below (w.heap.size + 4) _ w1 := hb1.mono (by omega)
    clear c0 c1 p0 p1 p2 p3 d0 d1
    obtain ⟨hB1, c0, c1, p0, p1, p2, p3, d0, d1, hG⟩ := HX.out _ hBx
    have HG := hid hG
    have k0 := cell_cells (i := 0) hG
    have k1 := cell_cells (i := 1) hG
    have k2 := cell_cells (i := 2) hG
    simp only [List.getElem?_toArray, List.getElem?_cons_zero, List.getElem?_cons_succ] at k0 k1 k2
    have z0 := cells_frz (i := 0) hG
    have z1 := cells_frz (i := 1) hG
    have z2 := cells_frz (i := 2) hG
    have HR := hid hrd1
    have HS := hid hsl1
    have HB := hid hB1
    clear hrd1 hsl1 hb1 hBx hG hB1 c0 c1 p0 p1 p2 p3 d0 d1
    go_wp2_with fail
    obtain ⟨r0, r1, r2, q1, q2, q3⟩ := box_fin HG.out HB.out (by omega) (by omega) HR.out HS.out
    exact bodyPost_ret (v := .tuple #[.agg #[_, _, _], .int .i64 _]) (by simp [results, Tryz.results138, go_sem, r0, r1, r2] <;> rfl) rfl ⟨_, _, _, rfl, q1, q2, q3⟩
end Go.Proofs.YtlapdmgjfdelnaaGreat

namespace Go.Proofs.YtlapdmgjfdelnaaGreat
open Go.RowKit
set_option maxRecDepth 100000

/-- What one lies as: its tree and its context. -/
def CaE (w : World) (B : Nat) (x : Tr × List Sp) (cs : List Value) : Prop := ∃ ve vk vc, cs = [ve, vk, vc] ∧ x.1.rd w B ve vk ∧ SlP w B 3 SpE vc x.2
end Go.Proofs.YtlapdmgjfdelnaaGreat

namespace Go.Proofs.YtlapdmgjfdelnaaGreat
open Go.RowKit
set_option maxRecDepth 100000

end Go.Proofs.YtlapdmgjfdelnaaGreat

namespace Go.Proofs.YtlapdmgjfdelnaaGreat
open Go.RowKit
set_option maxRecDepth 100000

theorem r10own_any (t : Tr) (ve vk : Value) (w : World) (h : t.rd w w.heap.size ve vk) (hN : t.sz ≤ 90000) (hR : ∀ d ∈ ownD t, 0 ≤ d.n ∧ d.n ≤ 1099511627778) :
    Calls Tryz.prog 195 #[.agg #[ve, vk]] w (RetO w 45 3 (fun _ => SpE) (ctxOf (ownD t))) := by
  obtain ⟨es, ks⟩ := t
  have hsl := (rd_iff.1 h).1
  have hz : es.length ≤ 90000 := by rw [Tr.sz] at hN; omega
  have hD : (Tr.mk es []).dots = ownD (.mk es ks) := by unfold ownD; rw [Tr.dots, Tr.dotsL, List.append_nil]; rfl
  obtain ⟨A3, n3, A4, n4, rfl, rfl⟩ := rd_shape h
  have HE : Hid (∀ w', Below w.heap.size w w' → (Tr.mk es []).rd w' w'.heap.size (.slice A3 es.length n3) (.slice none 0 0)) := fun w' hb => rd_iff.2 ⟨hsl.imp hb hb.size fun _ _ _ h => h, SlP.nil⟩
  have HRR : Hid (∀ d ∈ (Tr.mk es []).dots, 0 ≤ d.n ∧ d.n ≤ 1099511627778) := by unfold Hid; rw [hD]; exact hR
  have hb0 : Below w.heap.size w (w.alloc (.cells #[.slice A3 (Tr.mk es ks).es.length n3, .slice A4 (Tr.mk es ks).ks.length n4] 25)) := (Below.refl _ w).alloc (Nat.le_refl _) _
  clear h hsl
  go_enter Tryz.func195, Tryz.ntmps195
  go_wp2_with fail
  refine (r08dots_any (.mk es []) _ _ _ (HE.out _ hb0) (by rw [Tr.sz, Tr.szL]; omega) HRR.out).mono ?_
  rw [hD]
  rintro e w1 ⟨v1, rfl, ho1, hb1⟩
  go_wp2_with fail
  go_ret
  exact ⟨_, rfl, ho1.mono (by simp), hb0.trans (hb1.mono (by simp))⟩
end Go.Proofs.YtlapdmgjfdelnaaGreat

namespace Go.Proofs.YtlapdmgjfdelnaaGreat
open Go.RowKit
set_option maxRecDepth 100000

theorem ctx_add {d : Dt} {l : List Dt} (hd : d.right = true) (hl : ∀ x ∈ l, x.right = true) : ctxOf (d :: l) = ctxBy (ctxOf l) [⟨d.dc, d.n, d.n⟩] 0 := by
  rw [ctxOf_whole, ctxBy_whole]
  refine whole_eq fun i hi => ?_
  rw [part_ctxOf l hi]
  have hb := (right_bd hd).2
  have hda : ∀ x ∈ d :: l, x.right = true := fun x hx => by
    rcases List.mem_cons.1 hx with rfl | hx
    · exact hd
    · exact hl x hx
  obtain ⟨a1, a2⟩ := ofL_right (nums_ok hda (i : Int))
  obtain ⟨b1, b2⟩ := ofL_right (nums_ok hl (i : Int))
  have hp : ∀ r ∈ partL [(⟨d.dc, d.n, d.n⟩ : Sp)] (i : Int), runOk r := fun r hr => by
    unfold partL at hr
    obtain ⟨s, hs, rfl⟩ := List.mem_map.1 hr
    have := (List.mem_filter.1 hs).1
    simp at this; subst this
    exact ⟨hb.1, Int.le_refl _, hb.2⟩
  obtain ⟨c1, c2⟩ := byL_right (a := ofL (numsL l (i : Int))) (b := partL [(⟨d.dc, d.n, d.n⟩ : Sp)] (i : Int)) 0 (runs_ok _ none b1) hp
  refine runs_eq _ _ none none a1 c1 fun n => ?_
  rw [c2, Bool.eq_iff_iff, a2]
  have hn : (hasL (ofL (numsL l (i : Int))) n = true) ↔ n ∈ numsL l (i : Int) := b2 n
  simp only [inn, if_neg (show ¬ ((0 : Int) = 2) by decide), if_neg (show ¬ ((0 : Int) = 1) by decide), Bool.or_eq_true, hn]
  by_cases e : d.dc = (i : Int)
  · have h1 : numsL (d :: l) (i : Int) = d.n :: numsL l (i : Int) := by simp [numsL, e]
    have h2 : partL [(⟨d.dc, d.n, d.n⟩ : Sp)] (i : Int) = [(d.n, d.n)] := by simp [partL, e]
    rw [h1, h2, List.mem_cons]
    simp [hasL, inR]
    constructor
    · rintro (h | h)
      · exact .inr ⟨by omega, by omega⟩
      · exact .inl h
    · rintro (h | ⟨h, k⟩)
      · exact .inr h
      · exact .inl (by omega)
  · have h1 : numsL (d :: l) (i : Int) = numsL l (i : Int) := by simp [numsL, e]
    have h2 : partL [(⟨d.dc, d.n, d.n⟩ : Sp)] (i : Int) = [] := by simp [partL, e]
    rw [h1, h2]; simp [hasL]
end Go.Proofs.YtlapdmgjfdelnaaGreat

namespace Go.Proofs.YtlapdmgjfdelnaaGreat
open Go.RowKit
set_option maxRecDepth 100000

def aftK (x : Kn) (o : Opr) (d : Dt) : Kn := jn x (appT x.1 o d, appC x.1 o d)
theorem aft_ok {x : Kn} (hx : KOk x) {o : Opr} {d : Dt} (h : appI x.1 o d = 0) : KOk (aftK x o d) := jn_okK hx (app_right h).1
theorem st_es {u : Tr} (ho : u.Ord) {y : En} : y ∈ u.es ↔ stE u [] y.dot = some y := by rw [stE_some ho, ← mem_es]; simp
end Go.Proofs.YtlapdmgjfdelnaaGreat

namespace Go.Proofs.YtlapdmgjfdelnaaGreat
open Go.RowKit
set_option maxRecDepth 100000

def renE (f : Dt → Dt) (e : En) : En := ⟨(f e.dot).dc, (f e.dot).n, e.s, e.v⟩
/-- Two trees that are one but for the names. -/
def RnT (f : Dt → Dt) (s t : Tr) : Prop := ∀ p y, ((p, y) : Lf) ∈ t.lvs [] ↔ ∃ e, ((p, e) : Lf) ∈ s.lvs [] ∧ y = renE f e
structure RnK (f : Dt → Dt) (x y : Kn) : Prop where
  okx : KOk x
  oky : KOk y
  lf : RnT f x.1 y.1
  inj : ∀ d e, hasC x.2 d = true → hasC x.2 e = true → f d = f e → d = e
  ctx : ∀ d, hasC y.2 d = true ↔ ∃ e, hasC x.2 e = true ∧ f e = d
theorem RnT.get {f : Dt → Dt} {s t : Tr} (h : RnT f s t) (hs : s.Ord) (ht : t.Ord) (p : List ByteArray) : RnT f (getK s p) (getK t p) := fun q y => by
  rw [mem_getP p ht, h]
  exact ⟨fun ⟨e, h1, h2⟩ => ⟨e, (mem_getP p hs).2 h1, h2⟩, fun ⟨e, h1, h2⟩ => ⟨e, (mem_getP p hs).1 h1, h2⟩⟩
theorem RnT.keys {f : Dt → Dt} {s t : Tr} (h : RnT f s t) (hs : s.Ord) (ht : t.Ord) : s.ks.map (·.1) = t.ks.map (·.1) := by
  refine sorted_ext ltS_irrefl (fun _ _ _ h k => ltS_trans h k) ?_ ?_ fun k => ?_
  · obtain ⟨es, ks⟩ := s
    exact List.pairwise_map.2 (ord_iff.1 hs).2.1
  · obtain ⟨es, ks⟩ := t
    exact List.pairwise_map.2 (ord_iff.1 ht).2.1
  · rw [keys_leaf hs, keys_leaf ht]
    exact ⟨fun ⟨q, e, h1⟩ => ⟨q, _, (h _ _).2 ⟨e, h1, rfl⟩⟩, fun ⟨q, y, h1⟩ => by obtain ⟨e, h2, _⟩ := (h _ _).1 h1; exact ⟨q, e, h2⟩⟩
theorem es_nodup {t : Tr} (ht : t.Ord) : t.es.Nodup := by
  obtain ⟨es, ks⟩ := t
  exact (ord_iff.1 ht).1.imp fun {a b} hh e => by rw [e, ltD_irrefl] at hh; cases hh
theorem RnT.es {f : Dt → Dt} {s t : Tr} (h : RnT f s t) (hs : s.Ord) (ht : t.Ord) (hi : ∀ d ∈ s.es, ∀ e ∈ s.es, f d.dot = f e.dot → d.dot = e.dot) : t.es.Perm (s.es.map (renE f)) := by
  refine (List.perm_ext_iff_of_nodup (es_nodup ht) ?_).2 fun y => ?_
  · refine List.pairwise_map.2 ((es_nodup hs).imp_of_mem fun {a b} ha hb hne e => hne ?_)
    have h1 : a.dot = b.dot := hi a ha b hb (congrArg En.dot e)
    have h2 := (st_es hs).1 ha
    have h3 := (st_es hs).1 hb
    rw [h1, h3] at h2; cases h2; rfl
  · rw [← mem_es, h, List.mem_map]
    exact ⟨fun ⟨e, h1, h2⟩ => ⟨e, mem_es.1 h1, h2.symm⟩, fun ⟨e, h1, h2⟩ => ⟨e, mem_es.2 h1, h2.symm⟩⟩
theorem sumP_ren (f : Dt → Dt) (es : List En) : sumP (es.map (renE f)) = sumP es := by
  induction es with
  | nil => rfl
  | cons e es ih => rw [List.map_cons, sumP_cons, sumP_cons, ih]; rfl
theorem view_ren {f : Dt → Dt} {s t : Tr} (h : RnT f s t) (hs : s.right 5 = true) (ht : t.right 5 = true) (hi : ∀ d ∈ s.es, ∀ e ∈ s.es, f d.dot = f e.dot → d.dot = e.dot) (hz : s.es.length ≤ 100) (k : Int) : viewK k s = viewK k t := by
  have os := right_ord _ _ hs
  have ot := right_ord _ _ ht
  have hp := h.es os ot hi
  have hl := hp.length_eq
  rw [List.length_map] at hl
  have e1 : onB s = onB t := by unfold onB; rw [hs, ht, hl]
  have hbd : ∀ {A : Tr}, A.right 5 = true → ∀ e ∈ A.es, -1099511627776 ≤ e.v ∧ e.v ≤ 1099511627776 := fun {A} hA e he => by
    have := (right_leaf A 5 hA ([], e) (mem_es.2 he)).2.2
    unfold En.right at this; simp at this; omega
  have e2 : valT s = valT t := by
    unfold valT
    rw [hs, ht, if_pos rfl, if_pos rfl, (sumE_P (hbd hs) hz).1, (sumE_P (hbd ht) (by omega)).1, sumP_perm hp, sumP_ren]
  have e3 : elemsOf s = elemsOf t := by
    rw [elems_right hs, elems_right ht]
    refine sorted_ext ltS_irrefl (fun _ _ _ h k => ltS_trans h k) (elL_sorted os) (elL_sorted ot) fun x => ?_
    rw [elL_mem, elL_mem]
    exact ⟨fun ⟨e, h1⟩ => ⟨_, (h _ _).2 ⟨e, h1, rfl⟩⟩, fun ⟨y, h1⟩ => by obtain ⟨e, h2, _⟩ := (h _ _).1 h1; exact ⟨e, h2⟩⟩
  have e4 : valsOf s = valsOf t := by
    rw [valsR hs, valsR ht]
    refine sdExt fun x => ?_
    unfold txtL
    rw [List.mem_map, List.mem_map]
    constructor
    · rintro ⟨e, h1, rfl⟩; exact ⟨renE f e, mem_es.1 ((h _ _).2 ⟨e, mem_es.2 h1, rfl⟩), rfl⟩
    · rintro ⟨y, h1, rfl⟩
      obtain ⟨e, h2, rfl⟩ := (h _ _).1 (mem_es.2 h1)
      exact ⟨e, mem_es.1 h2, rfl⟩
  have e5 : keysOf s = keysOf t := by unfold keysOf; rw [hs, ht, if_pos rfl, if_pos rfl, h.keys os ot]
  unfold viewK
  rw [e1, e2, e3, e4, e5]
/-- Which of a change's tree's leaves it has seen. -/
def seeAt (o : Opr) (p : List ByteArray) : Prop := if o.act = 3 ∨ o.act = 4 then ∃ q, p = o.path ++ [o.s] ++ q else if o.act = 5 then False else if o.act = 6 then p = o.path else ∃ q, p = o.path ++ q
theorem sees_iff {t : Tr} (h : t.Ord) {o : Opr} {x : Dt} : x ∈ seesD t o ↔ ∃ p e, ((p, e) : Lf) ∈ t.lvs [] ∧ e.dot = x ∧ seeAt o p := by
  unfold seesD seeAt
  split
  · rw [getP_dots h]
    exact ⟨fun ⟨q, e, h1, h2⟩ => ⟨_, e, h1, h2, q, rfl⟩, fun ⟨p, e, h1, h2, q, h3⟩ => ⟨q, e, h3 ▸ h1, h2⟩⟩
  · split
    · simp
    · split
      · rw [own_at h]
        exact ⟨fun ⟨e, h1, h2⟩ => ⟨_, e, h1, h2, rfl⟩, fun ⟨p, e, h1, h2, h3⟩ => ⟨e, h3 ▸ h1, h2⟩⟩
      · rw [getP_dots h]
        exact ⟨fun ⟨q, e, h1, h2⟩ => ⟨_, e, h1, h2, q, rfl⟩, fun ⟨p, e, h1, h2, q, h3⟩ => ⟨q, e, h3 ▸ h1, h2⟩⟩
theorem RnK.sees {f : Dt → Dt} {x y : Kn} (h : RnK f x y) {o : Opr} {z : Dt} (hz : hasC x.2 z = true) : f z ∈ seesD y.1 o ↔ z ∈ seesD x.1 o := by
  rw [sees_iff h.oky.ord, sees_iff h.okx.ord]
  constructor
  · rintro ⟨p, e, h1, h2, h3⟩
    obtain ⟨e1, h4, rfl⟩ := (h.lf _ _).1 h1
    exact ⟨p, e1, h4, h.inj _ _ (h.okx.has _ h4) hz h2, h3⟩
  · rintro ⟨p, e, h1, rfl, h3⟩
    exact ⟨p, renE f e, (h.lf _ _).2 ⟨e, h1, rfl⟩, rfl, h3⟩
theorem RnK.fullAt {f : Dt → Dt} {x y : Kn} (h : RnK f x y) (p : List ByteArray) (k : Nat) : fullAt x.1 p k = fullAt y.1 p k := by
  have h1 := (h.lf.get h.okx.ord h.oky.ord (p.take k)).keys (getP_ord h.okx.ord _) (getP_ord h.oky.ord _)
  have h2 : (getK x.1 (p.take k)).ks.length = (getK y.1 (p.take k)).ks.length := by have := congrArg List.length h1; simpa using this
  have h3 : ∀ s, hasK (getK x.1 (p.take k)) s = hasK (getK y.1 (p.take k)) s := fun s => by
    rw [Bool.eq_iff_iff]
    unfold hasK
    rw [List.any_eq_true, List.any_eq_true]
    have h4 : ∀ t : Tr, (∃ z ∈ t.ks, decide (z.1 = s) = true) ↔ s ∈ t.ks.map (·.1) := fun t => by rw [List.mem_map]; simp
    rw [h4, h4, h1]
  unfold Go.Proofs.YtlapdmgjfdelnaaGreat.fullAt
  rw [h2, h3]
theorem RnK.dotEs {f : Dt → Dt} {x y : Kn} (h : RnK f x y) (p : List ByteArray) : ∀ d ∈ (getK x.1 p).es, ∀ e ∈ (getK x.1 p).es, f d.dot = f e.dot → d.dot = e.dot := fun d hd e he => by
  have h1 : ∀ d ∈ (getK x.1 p).es, hasC x.2 d.dot = true := fun d hd => h.okx.has _ ((mem_getP p h.okx.ord).1 (mem_es.2 hd))
  exact h.inj _ _ (h1 d hd) (h1 e he)
theorem RnK.full {f : Dt → Dt} {x y : Kn} (h : RnK f x y) (o : Opr) : fullB x.1 o = fullB y.1 o := by
  have h1 := ((h.lf.get h.okx.ord h.oky.ord (endP o)).es (getP_ord h.okx.ord _) (getP_ord h.oky.ord _) (h.dotEs _)).length_eq
  rw [List.length_map] at h1
  unfold fullB fullP
  rw [h1, any_congr' fun k _ => h.fullAt (endP o) k]
theorem RnK.app {f : Dt → Dt} {x y : Kn} (h : RnK f x y) (o : Opr) {d e : Dt} (hd : d.right = true) (he : e.right = true) (hd' : hasC x.2 d = false) (he' : hasC y.2 e = false) : appI x.1 o d = appI y.1 o e := by
  have hx : x.1.right 5 = true := (right_iff h.okx.ord).2 h.okx.leaf
  have hy : y.1.right 5 = true := (right_iff h.oky.ord).2 h.oky.leaf
  have hno : ∀ {z : Kn} {c : Dt}, KOk z → hasC z.2 c = false → c ∉ z.1.dots := fun {z c} hz hc hm => by
    obtain ⟨p, e, h1, rfl⟩ := (mem_dots _ _).1 hm
    rw [hz.has _ h1] at hc; cases hc
  unfold appI
  rw [hx, hy, chk_mk' hx hd (hno h.okx hd'), chk_mk' hy he (hno h.oky he'), h.full o]
theorem aft_lvs {x : Kn} (hx : KOk x) {o : Opr} {d : Dt} (h : appI x.1 o d = 0) (hd : hasC x.2 d = false) (p : List ByteArray) (e : En) : ((p, e) : Lf) ∈ (aftK x o d).1.lvs [] ↔ (entryB o.act = true ∧ p = endP o ∧ e = entE o d) ∨ (((p, e) : Lf) ∈ x.1.lvs [] ∧ e.dot ∉ seesD x.1 o) := by
  have hX : KOk (appT x.1 o d, appC x.1 o d) := (app_right h).1
  have hs : ∀ {t : Tr}, t.Ord → (((p, e) : Lf) ∈ t.lvs [] ↔ stE t p e.dot = some e) := fun {t} ho => by rw [stE_some ho]; simp
  rw [hs (aft_ok hx h).ord, hs hx.ord]
  unfold aftK
  rw [jn_st hx hX]
  simp only
  rw [app_st h, app_has h]
  by_cases hz : e.dot = d
  · have hn : stE x.1 p e.dot = none := by
      cases hs : stE x.1 p e.dot with
      | none => rfl
      | some y => have h1 : hasC x.2 e.dot = true := (stE_has hx hs).1; rw [hz, hd] at h1; cases h1
    rw [hn, hz, hd]
    by_cases h1 : entryB o.act = true ∧ p = endP o
    · rw [if_pos ⟨h1.1, h1.2, rfl⟩]
      simp [jnO, h1.1, h1.2, eq_comm]
    · rw [if_neg (fun q => h1 ⟨q.1, q.2.1⟩)]
      simp only [jnO]
      exact ⟨fun q => (by cases q), fun q => by rcases q with ⟨a, b, _⟩ | ⟨a, _⟩; exact absurd ⟨a, b⟩ h1; cases a⟩
  · rw [if_neg (fun q => hz q.2.2)]
    have hne : e ≠ entE o d := fun q => hz (by rw [q]; rfl)
    cases hs : stE x.1 p e.dot with
    | none => simp [jnO, hne]
    | some y => by_cases h1 : e.dot ∈ seesD x.1 o <;> simp [jnO, h1, hz, hne]
theorem aft_has' {x : Kn} (hx : KOk x) {o : Opr} {d : Dt} (h : appI x.1 o d = 0) (z : Dt) : hasC (aftK x o d).2 z = true ↔ hasC x.2 z = true ∨ z = d := by
  have hX : KOk (appT x.1 o d, appC x.1 o d) := (app_right h).1
  unfold aftK
  rw [jn_has hx hX]
  simp only
  rw [app_has h, Bool.or_eq_true, decide_eq_true_eq]
  constructor
  · rintro (h1 | h1 | h1)
    · exact .inl h1
    · exact .inr h1
    · obtain ⟨q, e, h2, rfl⟩ := sees_at hx.ord h1
      exact .inl (hx.has _ h2)
  · rintro (h1 | h1)
    · exact .inl h1
    · exact .inr (.inl h1)
theorem RnK.step {f : Dt → Dt} {x y : Kn} (h : RnK f x y) {o : Opr} {d : Dt} (ha : appI x.1 o d = 0) (hb : appI y.1 o (f d) = 0) (hd : hasC x.2 d = false) (he : hasC y.2 (f d) = false) : RnK f (aftK x o d) (aftK y o (f d)) := by
  refine ⟨aft_ok h.okx ha, aft_ok h.oky hb, fun p z => ?_, fun a b h1 h2 h3 => ?_, fun z => ?_⟩
  · rw [aft_lvs h.oky hb he]
    constructor
    · rintro (⟨h1, h2, rfl⟩ | ⟨h1, h2⟩)
      · exact ⟨entE o d, (aft_lvs h.okx ha hd _ _).2 (.inl ⟨h1, h2, rfl⟩), rfl⟩
      · obtain ⟨e, h3, rfl⟩ := (h.lf _ _).1 h1
        exact ⟨e, (aft_lvs h.okx ha hd _ _).2 (.inr ⟨h3, fun h4 => h2 ((h.sees (h.okx.has _ h3)).2 h4)⟩), rfl⟩
    · rintro ⟨e, h1, rfl⟩
      rcases (aft_lvs h.okx ha hd _ _).1 h1 with ⟨h2, h3, rfl⟩ | ⟨h2, h3⟩
      · exact .inl ⟨h2, h3, rfl⟩
      · exact .inr ⟨(h.lf _ _).2 ⟨e, h2, rfl⟩, fun h4 => h3 ((h.sees (h.okx.has _ h2)).1 h4)⟩
  · have hk : ∀ z, hasC x.2 z = true → f z ≠ f d := fun z hz e => by
      have := (h.ctx (f d)).2 ⟨z, hz, e⟩
      rw [he] at this; cases this
    rw [aft_has' h.okx ha] at h1 h2
    rcases h1 with h1 | rfl <;> rcases h2 with h2 | rfl
    · exact h.inj _ _ h1 h2 h3
    · exact absurd h3 (hk _ h1)
    · exact absurd h3.symm (hk _ h2)
    · rfl
  · rw [aft_has' h.oky hb, h.ctx]
    constructor
    · rintro (⟨e, h1, h2⟩ | rfl)
      · exact ⟨e, (aft_has' h.okx ha _).2 (.inl h1), h2⟩
      · exact ⟨d, (aft_has' h.okx ha _).2 (.inr rfl), rfl⟩
    · rintro ⟨e, h1, h2⟩
      rcases (aft_has' h.okx ha _).1 h1 with h1 | rfl
      · exact .inl ⟨e, h1, h2⟩
      · exact .inr h2.symm
theorem RnK.read {f : Dt → Dt} {x y : Kn} (h : RnK f x y) (p : List ByteArray) (hz : x.1.sz ≤ 100) : readI x.1 p = readI y.1 p ∧ readV x.1 p = readV y.1 p := by
  have hx : x.1.right 5 = true := (right_iff h.okx.ord).2 h.okx.leaf
  have hy : y.1.right 5 = true := (right_iff h.oky.ord).2 h.oky.leaf
  have hI : readI x.1 p = readI y.1 p := by unfold readI; rw [hx, hy]
  refine ⟨hI, ?_⟩
  have h1 := getK_szle x.1 p
  have h2 := es_sz (getK x.1 p)
  unfold readV
  rw [hI, view_ren (h.lf.get h.okx.ord h.oky.ord p) (getK_right hx p) (getK_right hy p) (h.dotEs p) (by omega)]
end Go.Proofs.YtlapdmgjfdelnaaGreat

namespace Go.Proofs.YtlapdmgjfdelnaaGreat
open Go.RowKit
set_option maxRecDepth 100000

/-- One more change, named by the next name: how many, what it makes of all, and all that was made, joined. -/
def stpN (nm : Nat → Dt) (s : Nat × Kn × Kn) (o : Opr) : Nat × Kn × Kn := (s.1 + 1, aftK s.2.1 o (nm s.1), jn s.2.2 (appT s.2.1.1 o (nm s.1), appC s.2.1.1 o (nm s.1)))
def chS (nm : Nat → Dt) (g : Kn) (ops : List Opr) : Nat × Kn × Kn := ops.foldl (stpN nm) (0, g, kn0)
/-- Each change can be made. -/
def okTx (nm : Nat → Dt) (g : Kn) (ops : List Opr) : Prop := ∀ (k : Nat) o, ops[k]? = some o → appI (chS nm g (ops.take k)).2.1.1 o (nm k) = 0
theorem app_len {t : Tr} {o : Opr} {d : Dt} (h : appI t o d = 0) : (appC t o d).length ≤ 4 * (t.sz + 2) := by
  have e1 : appC t o d = ctxOf (d :: seesD t o) := by unfold appC; rw [if_pos h]
  have e2 : (ctxOf (d :: seesD t o)).length ≤ 4 * ((d :: seesD t o).length + 1) := ctxOfK_len _ 4
  have e3 := sees_len t o
  rw [e1]
  simp only [List.length_cons] at e2
  omega
structure ChI (nm : Nat → Dt) (g : Kn) (k : Nat) (s : Nat × Kn × Kn) : Prop where
  now : KOk s.2.1
  out : KOk s.2.2
  has : ∀ z, hasC s.2.1.2 z = true ↔ hasC g.2 z = true ∨ ∃ i, i < k ∧ z = nm i
  eq : jn g s.2.2 = s.2.1
  z1 : s.2.1.1.sz ≤ g.1.sz + 5 * k
  z2 : s.2.2.1.sz ≤ 5 * k
  l1 : s.2.1.2.length ≤ g.2.length + 500 * k
  l2 : s.2.2.2.length ≤ 500 * k
/-- The names within. -/
def txD (k : Nat) : Dt := ⟨0, 1099511627765 + (k : Int)⟩
def nmF (nm : Nat → Dt) (d : Dt) : Dt := if d.dc = 0 ∧ 1099511627765 ≤ d.n ∧ d.n ≤ 1099511627776 then nm (d.n - 1099511627765).toNat else d
end Go.Proofs.YtlapdmgjfdelnaaGreat

namespace Go.Proofs.YtlapdmgjfdelnaaGreat
open Go.RowKit
set_option maxRecDepth 100000

/-- The call hands back a view, whose list lies in rows of its own, and an error's number. -/
def RetVE (w : World) (v : Vw) (k : Int) (e : Ending) (w' : World) : Prop :=
  ∃ vl, e = .returned (.tuple #[.agg #[.int .i64 v.kind, .bool v.on, .int .i64 v.n, vl], .int .i64 k]) ∧ SlA w' (fun b => w.heap.size ≤ b ∧ b < w'.heap.size) 1 StE vl v.l ∧ Below w.heap.size w w'
theorem box4 {w : World} {g : Nat} {x y z u : Value} {e : TypeId} (hbx : w.heap[g]? = some (.cells #[x, y, z, u] e (0, 0))) (a b c d : Value) :
    ((((w.setCell ⟨g, 0, none⟩ a).setCell ⟨g, 1, none⟩ b).setCell ⟨g, 2, none⟩ c).setCell ⟨g, 3, none⟩ d).cell? ⟨g, 0, none⟩ = some a ∧ ((((w.setCell ⟨g, 0, none⟩ a).setCell ⟨g, 1, none⟩ b).setCell ⟨g, 2, none⟩ c).setCell ⟨g, 3, none⟩ d).cell? ⟨g, 1, none⟩ = some b ∧ ((((w.setCell ⟨g, 0, none⟩ a).setCell ⟨g, 1, none⟩ b).setCell ⟨g, 2, none⟩ c).setCell ⟨g, 3, none⟩ d).cell? ⟨g, 2, none⟩ = some c ∧ ((((w.setCell ⟨g, 0, none⟩ a).setCell ⟨g, 1, none⟩ b).setCell ⟨g, 2, none⟩ c).setCell ⟨g, 3, none⟩ d).cell? ⟨g, 3, none⟩ = some d ∧
      (∀ k, k ≠ g → ((((w.setCell ⟨g, 0, none⟩ a).setCell ⟨g, 1, none⟩ b).setCell ⟨g, 2, none⟩ c).setCell ⟨g, 3, none⟩ d).heap[k]? = w.heap[k]?) ∧ ((((w.setCell ⟨g, 0, none⟩ a).setCell ⟨g, 1, none⟩ b).setCell ⟨g, 2, none⟩ c).setCell ⟨g, 3, none⟩ d).heap.size = w.heap.size := by
  have hW := cells_set (i := 3) (cells_set (i := 2) (cells_set (i := 1) (cells_set (i := 0) hbx a) b) c) d
  exact ⟨(cell_cells (i := 0) hW).trans (by simp), (cell_cells (i := 1) hW).trans (by simp), (cell_cells (i := 2) hW).trans (by simp), (cell_cells (i := 3) hW).trans (by simp),
    fun k hk => (Below.heap_setCell _ _ _ _ hk).trans ((Below.heap_setCell _ _ _ _ hk).trans ((Below.heap_setCell _ _ _ _ hk).trans (Below.heap_setCell _ _ _ _ hk))), by simp [World.setCell]⟩
theorem below_box4 {B : Nat} {w0 w : World} {g : Nat} (h : Below B w0 w) (hg : B ≤ g) (a b c d : Value) : Below B w0 ((((w.setCell ⟨g, 0, none⟩ a).setCell ⟨g, 1, none⟩ b).setCell ⟨g, 2, none⟩ c).setCell ⟨g, 3, none⟩ d) :=
  (((h.setCell (p := ⟨g, 0, none⟩) hg a).setCell (p := ⟨g, 1, none⟩) hg b).setCell (p := ⟨g, 2, none⟩) hg c).setCell (p := ⟨g, 3, none⟩) hg d
theorem vals_len (u : Tr) : (valsOf u).length ≤ u.es.length := by
  unfold valsOf
  have h1 : ∀ l : List ByteArray, (cmpL (srtL l)).length ≤ l.length := fun l => by
    rw [sd_eq]
    obtain ⟨h1, h2⟩ := sdL_spec l
    exact List.Nodup.length_le_of_subset (nodup_lt h1) fun x hx => (h2 x).1 hx
  refine Nat.le_trans (h1 _) ?_
  split
  · unfold txtL; simp
  · simp
theorem keys_len (u : Tr) : (keysOf u).length ≤ u.ks.length := by unfold keysOf; split <;> simp
theorem read_err {t : Tr} {p : List ByteArray} (h : readI t p ≠ 0) : readV t p = vw0 := by unfold readV; rw [if_neg h]
set_option maxHeartbeats 8000000 in
theorem opRead_any (t : Tr) (path : List ByteArray) (ve vk vp : Value) (w : World) (h : t.rd w w.heap.size ve vk) (hp : SlP w w.heap.size 1 StE vp path) (hN : t.sz ≤ 4000) :
    Calls Tryz.prog 40 #[.agg #[ve, vk], vp] w (RetVE w (readV t path) (readI t path)) := by
  have HC : Hid (∀ w', Below w.heap.size w w' → t.rd w' w'.heap.size ve vk) := fun w' hb => rd_below hb hb.size _ _ _ h
  have HD : Hid (∀ w', Below w.heap.size w w' → SlP w' w'.heap.size 1 StE vp path) := fun w' hb => hp.imp hb hb.size fun _ _ _ h => h
  obtain ⟨A3, n3, A4, n4, rfl, rfl⟩ := rd_shape h
  obtain ⟨A5, n5, rfl, p1, p2, p3⟩ := hp
  unfold Big at p2
  have hb0 := ((Below.refl w.heap.size w).alloc (Nat.le_refl _) (.cells #[.slice A3 t.es.length n3, .slice A4 t.ks.length n4] 25)).alloc (by simp) (.cells #[.int .i64 0, .bool false, .int .i64 0, .slice none 0 0] 72)
  have HX : Hid (∀ W, Below (w.heap.size + 2) ((w.alloc (.cells #[.slice A3 t.es.length n3, .slice A4 t.ks.length n4] 25)).alloc (.cells #[.int .i64 0, .bool false, .int .i64 0, .slice none 0 0] 72)) W →
      (Below w.heap.size w W ∧ t.rd W W.heap.size (.slice A3 t.es.length n3) (.slice A4 t.ks.length n4) ∧ SlP W W.heap.size 1 StE (.slice A5 path.length n5) path ∧ W.cell? ⟨w.heap.size, 0, none⟩ = some (.slice A3 t.es.length n3) ∧ W.cell? ⟨w.heap.size, 1, none⟩ = some (.slice A4 t.ks.length n4) ∧ W.heap[w.heap.size + 1]? = some (.cells #[.int .i64 0, .bool false, .int .i64 0, .slice none 0 0] 72 (0, 0)))) := fun W hW => by
    have g0 : W.heap[w.heap.size]? = some (.cells #[.slice A3 t.es.length n3, .slice A4 t.ks.length n4] 25 (0, 0)) := (hW.block _ (by omega)).trans ((heap_old (by simp)).trans (heap_new rfl))
    have g1 : W.heap[w.heap.size + 1]? = some (.cells #[.int .i64 0, .bool false, .int .i64 0, .slice none 0 0] 72 (0, 0)) := (hW.block _ (by omega)).trans (heap_new (by simp))
    have hB := hb0.trans (hW.mono (by omega))
    exact ⟨hB, HC.out _ hB, HD.out _ hB, cell_cells (i := 0) g0, cell_cells (i := 1) g0, g1⟩
  clear h
  go_enter Tryz.func40, Tryz.ntmps40
  go_wp2_with fail
  obtain ⟨hB, rt, rp, c0, c1, g1⟩ := HX.out _ (Below.refl _ _)
  refine (tRight_any t _ _ _ rt).mono ?_
  cases ht : t.right 5
  · rintro e w1 ⟨rfl, hb1⟩
    have HBN := hid (hb1.mono (show w.heap.size + 2 ≤ _ by simp))
    have hRI : readI t path = 1 := by unfold readI; rw [ht]; rfl
    have HRI := hid hRI
    have HRV := hid (read_err (t := t) (p := path) (by rw [hRI]; decide))
    clear hB rt rp c0 c1 g1 ht hb1 hRI
    have hGZ := (HX.out _ HBN.out).2.2.2.2.2
    have hBz := (HX.out _ HBN.out).1
    have HG := hid hGZ
    have HBZ := hid hBz
    have k0 := cell_cells (i := 0) hGZ
    have k1 := cell_cells (i := 1) hGZ
    have k2 := cell_cells (i := 2) hGZ
    have k3 := cell_cells (i := 3) hGZ
    simp only [List.getElem?_toArray, List.getElem?_cons_zero, List.getElem?_cons_succ] at k0 k1 k2 k3
    have z0 := cells_frz (i := 0) hGZ
    have z1 := cells_frz (i := 1) hGZ
    have z2 := cells_frz (i := 2) hGZ
    have z3 := cells_frz (i := 3) hGZ
    clear hGZ hBz
    go_wp2_with fail
    obtain ⟨r0, r1, r2, r3, hK, hS⟩ := box4 HG.out (.int .i64 0) (.bool false) (.int .i64 0) (.slice none 0 0)
    have hBW := below_box4 HBZ.out (show w.heap.size ≤ w.heap.size + 1 by omega) (.int .i64 0) (.bool false) (.int .i64 0) (.slice none 0 0)
    exact bodyPost_ret (v := .tuple #[.agg #[.int .i64 0, .bool false, .int .i64 0, .slice none 0 0], .int .i64 1]) (by simp [results, Tryz.results40, go_sem, r0, r1, r2, r3] <;> rfl) rfl ⟨_, by rw [HRI.out, HRV.out]; rfl, by rw [HRV.out]; exact SlA.nil, hBW⟩
  rintro e w1 ⟨rfl, hb1⟩
  have HBN := hid (hb1.mono (show w.heap.size + 2 ≤ _ by simp))
  clear hB rt rp c0 c1 g1 hb1
  obtain ⟨hB, rt, rp, c0, c1, g1⟩ := HX.out _ HBN.out
  have HT := hid ht
  clear ht
  go_wp2_with fail
  refine (checkPath_any path _ _ rp).mono ?_
  by_cases hi : pathI path = 0
  case neg =>
    rintro e w2 ⟨rfl, hb2⟩
    have HBN2 := hid (HBN.out.trans (hb2.mono (by have := HBN.out.size; simpa using this)))
    have hne : (pathI path == 0) = false := by simpa using hi
    have hRI : readI t path = pathI path := by unfold readI; rw [HT.out]; rfl
    have HRI := hid hRI
    have HRV := hid (read_err (t := t) (p := path) (by rw [hRI]; exact hi))
    clear hB rt rp c0 c1 g1 hb2 hi HBN hRI
    have HBN := HBN2
    have hGZ := (HX.out _ HBN.out).2.2.2.2.2
    have hBz := (HX.out _ HBN.out).1
    have HG := hid hGZ
    have HBZ := hid hBz
    have k0 := cell_cells (i := 0) hGZ
    have k1 := cell_cells (i := 1) hGZ
    have k2 := cell_cells (i := 2) hGZ
    have k3 := cell_cells (i := 3) hGZ
    simp only [List.getElem?_toArray, List.getElem?_cons_zero, List.getElem?_cons_succ] at k0 k1 k2 k3
    have z0 := cells_frz (i := 0) hGZ
    have z1 := cells_frz (i := 1) hGZ
    have z2 := cells_frz (i := 2) hGZ
    have z3 := cells_frz (i := 3) hGZ
    clear hGZ hBz
    go_wp2_with fail
    obtain ⟨r0, r1, r2, r3, hK, hS⟩ := box4 HG.out (.int .i64 0) (.bool false) (.int .i64 0) (.slice none 0 0)
    have hBW := below_box4 HBZ.out (show w.heap.size ≤ w.heap.size + 1 by omega) (.int .i64 0) (.bool false) (.int .i64 0) (.slice none 0 0)
    exact bodyPost_ret (v := .tuple #[.agg #[.int .i64 0, .bool false, .int .i64 0, .slice none 0 0], .int .i64 (pathI path)]) (by simp [results, Tryz.results40, go_sem, r0, r1, r2, r3] <;> rfl) rfl ⟨_, by rw [HRI.out, HRV.out]; rfl, by rw [HRV.out]; exact SlA.nil, hBW⟩
  rw [hi]
  rintro e w2 ⟨rfl, hb2⟩
  have HBN2 := hid (HBN.out.trans (hb2.mono (by have := HBN.out.size; simpa using this)))
  have HI := hid hi
  obtain ⟨hk1, hk2⟩ := path_kind hi
  have hpl := (path_ok hi).1
  clear hB rt rp c0 c1 g1 hb2 hi HBN
  have HBN := HBN2
  clear HBN2
  obtain ⟨hB, rt, rp, c0, c1, g1⟩ := HX.out _ HBN.out
  obtain ⟨u, HU⟩ : ∃ u, Hid (tgetT t path = u) := ⟨_, rfl⟩
  have HUK : Hid (getK t path = u) := (tgetT_eq HT.out path).symm.trans HU.out
  have hus : u.sz ≤ 4000 := by rw [← HUK.out]; exact Nat.le_trans (getK_szle t path) hN
  have hue := es_sz u
  go_wp2_with fail
  refine (tget_any t path _ _ _ _ rt rp (by omega)).mono ?_
  rw [HU.out]
  rintro e w3 ⟨ve3, vk3, rfl, hrd3, hb3⟩
  obtain ⟨Ar, nr, Br, mr, rfl, rfl⟩ := rda_shape hrd3
  have HBN2 := hid (HBN.out.trans (hb3.mono (by have := HBN.out.size; simpa using this)))
  have hs3 := HBN2.out.size
  simp only [World.size_alloc] at hs3
  have HR3 := hid hrd3
  obtain ⟨bq, offq, hA5, hbq, hcq⟩ := p3 (by rintro rfl; simp at hpl)
  subst hA5
  obtain ⟨cs, ⟨rfl, hkok⟩, _, hku⟩ := hcq (path.length - 1) _ (last_at hpl)
  have HY : Hid (∀ W, Below (w3.heap.size + 1) (w3.alloc (.cells #[.slice Ar u.es.length nr, .slice Br u.ks.length mr] 25)) W → (Below (w.heap.size + 2) ((w.alloc (.cells #[.slice A3 t.es.length n3, .slice A4 t.ks.length n4] 25)).alloc (.cells #[.int .i64 0, .bool false, .int .i64 0, .slice none 0 0] 72)) W ∧ u.rd W W.heap.size (.slice Ar u.es.length nr) (.slice Br u.ks.length mr) ∧ W.cell? ⟨w3.heap.size, 0, none⟩ = some (.slice Ar u.es.length nr) ∧ W.cell? ⟨w3.heap.size, 1, none⟩ = some (.slice Br u.ks.length mr) ∧ W.cell? ⟨bq, offq + (path.length - 1), none⟩ = some (.string (lastK path)))) := fun W hW => by
    have g := (hW.block w3.heap.size (by omega)).trans (heap_new rfl)
    have hB3 := ((Below.refl _ w3).alloc (Nat.le_refl _) _).trans (hW.mono (by omega))
    have hBX := HBN2.out.trans (hB3.mono (by omega))
    have hBW := (HX.out W hBX).1
    exact ⟨hBX, rda_rd HR3.out (fun b hb => hb.2) hB3, cell_cells (i := 0) g, cell_cells (i := 1) g, (hBW.cell (p := ⟨bq, offq + (path.length - 1), none⟩) hbq).trans (by simpa using hku 0 _ rfl)⟩
  clear hB rt rp c0 c1 g1 hb3 hrd3 HBN hku hcq p3
  obtain ⟨hBy, ru, y0, y1, y2⟩ := HY.out _ (Below.refl _ _)
  go_wp2_with fail
  refine (opKind_any (lastK path) _).mono ?_
  rcases (show kindB (lastK path) = 1 ∨ kindB (lastK path) = 2 ∨ kindB (lastK path) = 3 ∨ kindB (lastK path) = 4 ∨ kindB (lastK path) = 5 by omega) with hk | hk | hk | hk | hk
  · rw [hk]
    rintro e w4 ⟨rfl, hb4⟩
    have HBY := hid (hb4.mono (show w3.heap.size + 1 ≤ _ by simp))
    have hs4 := HBY.out.size
    simp only [World.size_alloc] at hs4
    have HV : Hid (∀ W, Below (w4.heap.size + 1) (w4.alloc (.cells #[.int .i64 1, .bool false, .int .i64 0, .slice none 0 0] 72)) W → (Below (w3.heap.size + 1) (w3.alloc (.cells #[.slice Ar u.es.length nr, .slice Br u.ks.length mr] 25)) W ∧ W.heap[w4.heap.size]? = some (.cells #[.int .i64 1, .bool false, .int .i64 0, .slice none 0 0] 72 (0, 0)))) := fun W hW =>
      ⟨HBY.out.trans ((((Below.refl _ w4).alloc (Nat.le_refl _) _).trans (hW.mono (by omega))).mono (by omega)), (hW.block w4.heap.size (by omega)).trans (heap_new rfl)⟩
    have HVW : Hid (readV t path = viewK 1 u ∧ readI t path = 0) := by
      have h0 : readI t path = 0 := by unfold readI; rw [HT.out, HI.out]; rfl
      exact ⟨by unfold readV; rw [if_pos h0, hk, HUK.out], h0⟩
    clear hBy ru y0 y1 y2 hb4 hk
    obtain ⟨hBv, gv⟩ := HV.out _ (Below.refl _ _)
    obtain ⟨hBy, ru, y0, y1, y2⟩ := HY.out _ hBv
    have v0 := cell_cells (i := 0) gv
    simp only [List.getElem?_toArray, List.getElem?_cons_zero] at v0
    go_wp2_with fail
    refine (fon_any u _ _ _ ru).mono ?_
    rintro e w5 ⟨rfl, hb5⟩
    have HBV := hid (hb5.mono (show w4.heap.size + 1 ≤ _ by simp))
    have hs5 := HBV.out.size
    simp only [World.size_alloc] at hs5
    clear hBv gv hBy ru y0 y1 y2 v0 hb5
    obtain ⟨hBv, gv⟩ := HV.out _ HBV.out
    obtain ⟨hBx, _, _, _, _⟩ := HY.out _ hBv
    obtain ⟨hBW, _, _, _, _, gz⟩ := HX.out _ hBx
    have HGV := hid gv
    have HGZ := hid gz
    have HBW := hid hBW
    have v0 := cell_cells (i := 0) gv
    have v1 := cell_cells (i := 1) gv
    have v2 := cell_cells (i := 2) gv
    have v3 := cell_cells (i := 3) gv
    simp only [List.getElem?_toArray, List.getElem?_cons_zero, List.getElem?_cons_succ] at v0 v1 v2 v3
    have u0 := cells_frz (i := 0) gv
    have u1 := cells_frz (i := 1) gv
    have u2 := cells_frz (i := 2) gv
    have u3 := cells_frz (i := 3) gv
    have k0 := cell_cells (i := 0) gz
    have k1 := cell_cells (i := 1) gz
    have k2 := cell_cells (i := 2) gz
    have k3 := cell_cells (i := 3) gz
    simp only [List.getElem?_toArray, List.getElem?_cons_zero, List.getElem?_cons_succ] at k0 k1 k2 k3
    have z0 := cells_frz (i := 0) gz
    have z1 := cells_frz (i := 1) gz
    have z2 := cells_frz (i := 2) gz
    have z3 := cells_frz (i := 3) gz
    have hne1 : w4.heap.size ≠ w.heap.size + 1 := by omega
    have hne2 : w.heap.size + 1 ≠ w4.heap.size := by omega
    clear hBv gv hBx hBW gz
    go_wp2_with fail
    have HG5 : (w5.setCell ⟨w4.heap.size, 1, none⟩ (.bool (onB u))).heap[w.heap.size + 1]? = some (.cells #[.int .i64 0, .bool false, .int .i64 0, .slice none 0 0] 72 (0, 0)) := (Below.heap_setCell _ _ _ _ (by simp; omega)).trans HGZ.out
    have hS5 : (w5.setCell ⟨w4.heap.size, 1, none⟩ (.bool (onB u))).heap.size = w5.heap.size := by simp [World.setCell]
    obtain ⟨r0, r1, r2, r3, hK, hS⟩ := box4 HG5 (.int .i64 1) (.bool (onB u)) (.int .i64 0) (.slice none 0 0)
    have hBB := below_box4 (HBW.out.setCell (p := ⟨w4.heap.size, 1, none⟩) (by simp; omega) (.bool (onB u))) (show w.heap.size ≤ w.heap.size + 1 by omega) (.int .i64 1) (.bool (onB u)) (.int .i64 0) (.slice none 0 0)
    exact bodyPost_ret (v := .tuple #[.agg #[.int .i64 1, .bool (onB u), .int .i64 0, .slice none 0 0], .int .i64 0]) (by simp [results, Tryz.results40, go_sem, r0, r1, r2, r3] <;> rfl) rfl ⟨_, by rw [HVW.out.1, HVW.out.2]; rfl, by rw [HVW.out.1]; exact SlA.nil, hBB⟩
  · rw [hk]
    rintro e w4 ⟨rfl, hb4⟩
    have HBY := hid (hb4.mono (show w3.heap.size + 1 ≤ _ by simp))
    have hs4 := HBY.out.size
    simp only [World.size_alloc] at hs4
    have HV : Hid (∀ W, Below (w4.heap.size + 1) (w4.alloc (.cells #[.int .i64 2, .bool false, .int .i64 0, .slice none 0 0] 72)) W → (Below (w3.heap.size + 1) (w3.alloc (.cells #[.slice Ar u.es.length nr, .slice Br u.ks.length mr] 25)) W ∧ W.heap[w4.heap.size]? = some (.cells #[.int .i64 2, .bool false, .int .i64 0, .slice none 0 0] 72 (0, 0)))) := fun W hW =>
      ⟨HBY.out.trans ((((Below.refl _ w4).alloc (Nat.le_refl _) _).trans (hW.mono (by omega))).mono (by omega)), (hW.block w4.heap.size (by omega)).trans (heap_new rfl)⟩
    have HVW : Hid (readV t path = viewK 2 u ∧ readI t path = 0) := by
      have h0 : readI t path = 0 := by unfold readI; rw [HT.out, HI.out]; rfl
      exact ⟨by unfold readV; rw [if_pos h0, hk, HUK.out], h0⟩
    clear hBy ru y0 y1 y2 hb4 hk
    obtain ⟨hBv, gv⟩ := HV.out _ (Below.refl _ _)
    obtain ⟨hBy, ru, y0, y1, y2⟩ := HY.out _ hBv
    have v0 := cell_cells (i := 0) gv
    simp only [List.getElem?_toArray, List.getElem?_cons_zero] at v0
    go_wp2_with fail
    refine (selems_any u _ _ _ ru (by omega)).mono ?_
    rintro e w5 ⟨vL, rfl, ho5, hb5⟩
    obtain ⟨Av, nv, rfl⟩ := ho5.shape
    have HSL := hid (OwnP.sla ho5 (by unfold Big; have := elemsOf_len u; omega))
    have hbs5 : w.heap.size + 2 ≤ w5.heap.size := by have := hb5.size; simp at this; omega
    simp only [World.size_alloc] at HSL
    clear ho5
    have HBV := hid (hb5.mono (show w4.heap.size + 1 ≤ _ by simp))
    have hs5 := HBV.out.size
    simp only [World.size_alloc] at hs5
    clear hBv gv hBy ru y0 y1 y2 v0 hb5
    obtain ⟨hBv, gv⟩ := HV.out _ HBV.out
    obtain ⟨hBx, _, _, _, _⟩ := HY.out _ hBv
    obtain ⟨hBW, _, _, _, _, gz⟩ := HX.out _ hBx
    have HGV := hid gv
    have HGZ := hid gz
    have HBW := hid hBW
    have v0 := cell_cells (i := 0) gv
    have v1 := cell_cells (i := 1) gv
    have v2 := cell_cells (i := 2) gv
    have v3 := cell_cells (i := 3) gv
    simp only [List.getElem?_toArray, List.getElem?_cons_zero, List.getElem?_cons_succ] at v0 v1 v2 v3
    have u0 := cells_frz (i := 0) gv
    have u1 := cells_frz (i := 1) gv
    have u2 := cells_frz (i := 2) gv
    have u3 := cells_frz (i := 3) gv
    have k0 := cell_cells (i := 0) gz
    have k1 := cell_cells (i := 1) gz
    have k2 := cell_cells (i := 2) gz
    have k3 := cell_cells (i := 3) gz
    simp only [List.getElem?_toArray, List.getElem?_cons_zero, List.getElem?_cons_succ] at k0 k1 k2 k3
    have z0 := cells_frz (i := 0) gz
    have z1 := cells_frz (i := 1) gz
    have z2 := cells_frz (i := 2) gz
    have z3 := cells_frz (i := 3) gz
    have hne1 : w4.heap.size ≠ w.heap.size + 1 := by omega
    have hne2 : w.heap.size + 1 ≠ w4.heap.size := by omega
    clear hBv gv hBx hBW gz
    go_wp2_with fail
    have HG5 : (w5.setCell ⟨w4.heap.size, 3, none⟩ (.slice Av (elemsOf u).length nv)).heap[w.heap.size + 1]? = some (.cells #[.int .i64 0, .bool false, .int .i64 0, .slice none 0 0] 72 (0, 0)) := (Below.heap_setCell _ _ _ _ (by simp; omega)).trans HGZ.out
    have hS5 : (w5.setCell ⟨w4.heap.size, 3, none⟩ (.slice Av (elemsOf u).length nv)).heap.size = w5.heap.size := by simp [World.setCell]
    obtain ⟨r0, r1, r2, r3, hK, hS⟩ := box4 HG5 (.int .i64 2) (.bool false) (.int .i64 0) (.slice Av (elemsOf u).length nv)
    have hBB := below_box4 (HBW.out.setCell (p := ⟨w4.heap.size, 3, none⟩) (by simp; omega) (.slice Av (elemsOf u).length nv)) (show w.heap.size ≤ w.heap.size + 1 by omega) (.int .i64 2) (.bool false) (.int .i64 0) (.slice Av (elemsOf u).length nv)
    exact bodyPost_ret (v := .tuple #[.agg #[.int .i64 2, .bool false, .int .i64 0, .slice Av (elemsOf u).length nv], .int .i64 0]) (by simp [results, Tryz.results40, go_sem, r0, r1, r2, r3] <;> rfl) rfl ⟨_, by rw [HVW.out.1, HVW.out.2]; rfl, by
      rw [HVW.out.1]
      exact HSL.out.up (fun b hb => (hK b (by have := hb.1; omega)).trans (Below.heap_setCell _ _ _ _ (by have := hb.1; simp; omega))) (fun b hb => ⟨by have := hb.1; omega, by rw [hS, hS5]; exact hb.2.1⟩) (fun _ _ _ h => h), hBB⟩
  · rw [hk]
    rintro e w4 ⟨rfl, hb4⟩
    have HBY := hid (hb4.mono (show w3.heap.size + 1 ≤ _ by simp))
    have hs4 := HBY.out.size
    simp only [World.size_alloc] at hs4
    have HV : Hid (∀ W, Below (w4.heap.size + 1) (w4.alloc (.cells #[.int .i64 3, .bool false, .int .i64 0, .slice none 0 0] 72)) W → (Below (w3.heap.size + 1) (w3.alloc (.cells #[.slice Ar u.es.length nr, .slice Br u.ks.length mr] 25)) W ∧ W.heap[w4.heap.size]? = some (.cells #[.int .i64 3, .bool false, .int .i64 0, .slice none 0 0] 72 (0, 0)))) := fun W hW =>
      ⟨HBY.out.trans ((((Below.refl _ w4).alloc (Nat.le_refl _) _).trans (hW.mono (by omega))).mono (by omega)), (hW.block w4.heap.size (by omega)).trans (heap_new rfl)⟩
    have HVW : Hid (readV t path = viewK 3 u ∧ readI t path = 0) := by
      have h0 : readI t path = 0 := by unfold readI; rw [HT.out, HI.out]; rfl
      exact ⟨by unfold readV; rw [if_pos h0, hk, HUK.out], h0⟩
    clear hBy ru y0 y1 y2 hb4 hk
    obtain ⟨hBv, gv⟩ := HV.out _ (Below.refl _ _)
    obtain ⟨hBy, ru, y0, y1, y2⟩ := HY.out _ hBv
    have v0 := cell_cells (i := 0) gv
    simp only [List.getElem?_toArray, List.getElem?_cons_zero] at v0
    go_wp2_with fail
    refine (cvalue_any u _ _ _ ru).mono ?_
    rintro e w5 ⟨rfl, hb5⟩
    have HBV := hid (hb5.mono (show w4.heap.size + 1 ≤ _ by simp))
    have hs5 := HBV.out.size
    simp only [World.size_alloc] at hs5
    clear hBv gv hBy ru y0 y1 y2 v0 hb5
    obtain ⟨hBv, gv⟩ := HV.out _ HBV.out
    obtain ⟨hBx, _, _, _, _⟩ := HY.out _ hBv
    obtain ⟨hBW, _, _, _, _, gz⟩ := HX.out _ hBx
    have HGV := hid gv
    have HGZ := hid gz
    have HBW := hid hBW
    have v0 := cell_cells (i := 0) gv
    have v1 := cell_cells (i := 1) gv
    have v2 := cell_cells (i := 2) gv
    have v3 := cell_cells (i := 3) gv
    simp only [List.getElem?_toArray, List.getElem?_cons_zero, List.getElem?_cons_succ] at v0 v1 v2 v3
    have u0 := cells_frz (i := 0) gv
    have u1 := cells_frz (i := 1) gv
    have u2 := cells_frz (i := 2) gv
    have u3 := cells_frz (i := 3) gv
    have k0 := cell_cells (i := 0) gz
    have k1 := cell_cells (i := 1) gz
    have k2 := cell_cells (i := 2) gz
    have k3 := cell_cells (i := 3) gz
    simp only [List.getElem?_toArray, List.getElem?_cons_zero, List.getElem?_cons_succ] at k0 k1 k2 k3
    have z0 := cells_frz (i := 0) gz
    have z1 := cells_frz (i := 1) gz
    have z2 := cells_frz (i := 2) gz
    have z3 := cells_frz (i := 3) gz
    have hne1 : w4.heap.size ≠ w.heap.size + 1 := by omega
    have hne2 : w.heap.size + 1 ≠ w4.heap.size := by omega
    clear hBv gv hBx hBW gz
    go_wp2_with fail
    have HG5 : (w5.setCell ⟨w4.heap.size, 2, none⟩ (.int .i64 (valT u))).heap[w.heap.size + 1]? = some (.cells #[.int .i64 0, .bool false, .int .i64 0, .slice none 0 0] 72 (0, 0)) := (Below.heap_setCell _ _ _ _ (by simp; omega)).trans HGZ.out
    have hS5 : (w5.setCell ⟨w4.heap.size, 2, none⟩ (.int .i64 (valT u))).heap.size = w5.heap.size := by simp [World.setCell]
    obtain ⟨r0, r1, r2, r3, hK, hS⟩ := box4 HG5 (.int .i64 3) (.bool false) (.int .i64 (valT u)) (.slice none 0 0)
    have hBB := below_box4 (HBW.out.setCell (p := ⟨w4.heap.size, 2, none⟩) (by simp; omega) (.int .i64 (valT u))) (show w.heap.size ≤ w.heap.size + 1 by omega) (.int .i64 3) (.bool false) (.int .i64 (valT u)) (.slice none 0 0)
    exact bodyPost_ret (v := .tuple #[.agg #[.int .i64 3, .bool false, .int .i64 (valT u), .slice none 0 0], .int .i64 0]) (by simp [results, Tryz.results40, go_sem, r0, r1, r2, r3] <;> rfl) rfl ⟨_, by rw [HVW.out.1, HVW.out.2]; rfl, by rw [HVW.out.1]; exact SlA.nil, hBB⟩
  · rw [hk]
    rintro e w4 ⟨rfl, hb4⟩
    have HBY := hid (hb4.mono (show w3.heap.size + 1 ≤ _ by simp))
    have hs4 := HBY.out.size
    simp only [World.size_alloc] at hs4
    have HV : Hid (∀ W, Below (w4.heap.size + 1) (w4.alloc (.cells #[.int .i64 4, .bool false, .int .i64 0, .slice none 0 0] 72)) W → (Below (w3.heap.size + 1) (w3.alloc (.cells #[.slice Ar u.es.length nr, .slice Br u.ks.length mr] 25)) W ∧ W.heap[w4.heap.size]? = some (.cells #[.int .i64 4, .bool false, .int .i64 0, .slice none 0 0] 72 (0, 0)))) := fun W hW =>
      ⟨HBY.out.trans ((((Below.refl _ w4).alloc (Nat.le_refl _) _).trans (hW.mono (by omega))).mono (by omega)), (hW.block w4.heap.size (by omega)).trans (heap_new rfl)⟩
    have HVW : Hid (readV t path = viewK 4 u ∧ readI t path = 0) := by
      have h0 : readI t path = 0 := by unfold readI; rw [HT.out, HI.out]; rfl
      exact ⟨by unfold readV; rw [if_pos h0, hk, HUK.out], h0⟩
    clear hBy ru y0 y1 y2 hb4 hk
    obtain ⟨hBv, gv⟩ := HV.out _ (Below.refl _ _)
    obtain ⟨hBy, ru, y0, y1, y2⟩ := HY.out _ hBv
    have v0 := cell_cells (i := 0) gv
    simp only [List.getElem?_toArray, List.getElem?_cons_zero] at v0
    go_wp2_with fail
    refine (rvals_any u _ _ _ ru (by omega)).mono ?_
    rintro e w5 ⟨vL, rfl, ho5, hb5⟩
    obtain ⟨Av, nv, rfl⟩ := ho5.shape
    have HSL := hid (OwnP.sla ho5 (by unfold Big; have := vals_len u; omega))
    have hbs5 : w.heap.size + 2 ≤ w5.heap.size := by have := hb5.size; simp at this; omega
    simp only [World.size_alloc] at HSL
    clear ho5
    have HBV := hid (hb5.mono (show w4.heap.size + 1 ≤ _ by simp))
    have hs5 := HBV.out.size
    simp only [World.size_alloc] at hs5
    clear hBv gv hBy ru y0 y1 y2 v0 hb5
    obtain ⟨hBv, gv⟩ := HV.out _ HBV.out
    obtain ⟨hBx, _, _, _, _⟩ := HY.out _ hBv
    obtain ⟨hBW, _, _, _, _, gz⟩ := HX.out _ hBx
    have HGV := hid gv
    have HGZ := hid gz
    have HBW := hid hBW
    have v0 := cell_cells (i := 0) gv
    have v1 := cell_cells (i := 1) gv
    have v2 := cell_cells (i := 2) gv
    have v3 := cell_cells (i := 3) gv
    simp only [List.getElem?_toArray, List.getElem?_cons_zero, List.getElem?_cons_succ] at v0 v1 v2 v3
    have u0 := cells_frz (i := 0) gv
    have u1 := cells_frz (i := 1) gv
    have u2 := cells_frz (i := 2) gv
    have u3 := cells_frz (i := 3) gv
    have k0 := cell_cells (i := 0) gz
    have k1 := cell_cells (i := 1) gz
    have k2 := cell_cells (i := 2) gz
    have k3 := cell_cells (i := 3) gz
    simp only [List.getElem?_toArray, List.getElem?_cons_zero, List.getElem?_cons_succ] at k0 k1 k2 k3
    have z0 := cells_frz (i := 0) gz
    have z1 := cells_frz (i := 1) gz
    have z2 := cells_frz (i := 2) gz
    have z3 := cells_frz (i := 3) gz
    have hne1 : w4.heap.size ≠ w.heap.size + 1 := by omega
    have hne2 : w.heap.size + 1 ≠ w4.heap.size := by omega
    clear hBv gv hBx hBW gz
    go_wp2_with fail
    have HG5 : (w5.setCell ⟨w4.heap.size, 3, none⟩ (.slice Av (valsOf u).length nv)).heap[w.heap.size + 1]? = some (.cells #[.int .i64 0, .bool false, .int .i64 0, .slice none 0 0] 72 (0, 0)) := (Below.heap_setCell _ _ _ _ (by simp; omega)).trans HGZ.out
    have hS5 : (w5.setCell ⟨w4.heap.size, 3, none⟩ (.slice Av (valsOf u).length nv)).heap.size = w5.heap.size := by simp [World.setCell]
    obtain ⟨r0, r1, r2, r3, hK, hS⟩ := box4 HG5 (.int .i64 4) (.bool false) (.int .i64 0) (.slice Av (valsOf u).length nv)
    have hBB := below_box4 (HBW.out.setCell (p := ⟨w4.heap.size, 3, none⟩) (by simp; omega) (.slice Av (valsOf u).length nv)) (show w.heap.size ≤ w.heap.size + 1 by omega) (.int .i64 4) (.bool false) (.int .i64 0) (.slice Av (valsOf u).length nv)
    exact bodyPost_ret (v := .tuple #[.agg #[.int .i64 4, .bool false, .int .i64 0, .slice Av (valsOf u).length nv], .int .i64 0]) (by simp [results, Tryz.results40, go_sem, r0, r1, r2, r3] <;> rfl) rfl ⟨_, by rw [HVW.out.1, HVW.out.2]; rfl, by
      rw [HVW.out.1]
      exact HSL.out.up (fun b hb => (hK b (by have := hb.1; omega)).trans (Below.heap_setCell _ _ _ _ (by have := hb.1; simp; omega))) (fun b hb => ⟨by have := hb.1; omega, by rw [hS, hS5]; exact hb.2.1⟩) (fun _ _ _ h => h), hBB⟩
  · rw [hk]
    rintro e w4 ⟨rfl, hb4⟩
    have HBY := hid (hb4.mono (show w3.heap.size + 1 ≤ _ by simp))
    have hs4 := HBY.out.size
    simp only [World.size_alloc] at hs4
    have HV : Hid (∀ W, Below (w4.heap.size + 1) (w4.alloc (.cells #[.int .i64 5, .bool false, .int .i64 0, .slice none 0 0] 72)) W → (Below (w3.heap.size + 1) (w3.alloc (.cells #[.slice Ar u.es.length nr, .slice Br u.ks.length mr] 25)) W ∧ W.heap[w4.heap.size]? = some (.cells #[.int .i64 5, .bool false, .int .i64 0, .slice none 0 0] 72 (0, 0)))) := fun W hW =>
      ⟨HBY.out.trans ((((Below.refl _ w4).alloc (Nat.le_refl _) _).trans (hW.mono (by omega))).mono (by omega)), (hW.block w4.heap.size (by omega)).trans (heap_new rfl)⟩
    have HVW : Hid (readV t path = viewK 5 u ∧ readI t path = 0) := by
      have h0 : readI t path = 0 := by unfold readI; rw [HT.out, HI.out]; rfl
      exact ⟨by unfold readV; rw [if_pos h0, hk, HUK.out], h0⟩
    clear hBy ru y0 y1 y2 hb4 hk
    obtain ⟨hBv, gv⟩ := HV.out _ (Below.refl _ _)
    obtain ⟨hBy, ru, y0, y1, y2⟩ := HY.out _ hBv
    have v0 := cell_cells (i := 0) gv
    simp only [List.getElem?_toArray, List.getElem?_cons_zero] at v0
    go_wp2_with fail
    refine (okeys_any u _ _ _ ru (by omega)).mono ?_
    rintro e w5 ⟨vL, rfl, ho5, hb5⟩
    obtain ⟨Av, nv, rfl⟩ := ho5.shape
    have HSL := hid (OwnP.sla ho5 (by unfold Big; have := keys_len u; omega))
    have hbs5 : w.heap.size + 2 ≤ w5.heap.size := by have := hb5.size; simp at this; omega
    simp only [World.size_alloc] at HSL
    clear ho5
    have HBV := hid (hb5.mono (show w4.heap.size + 1 ≤ _ by simp))
    have hs5 := HBV.out.size
    simp only [World.size_alloc] at hs5
    clear hBv gv hBy ru y0 y1 y2 v0 hb5
    obtain ⟨hBv, gv⟩ := HV.out _ HBV.out
    obtain ⟨hBx, _, _, _, _⟩ := HY.out _ hBv
    obtain ⟨hBW, _, _, _, _, gz⟩ := HX.out _ hBx
    have HGV := hid gv
    have HGZ := hid gz
    have HBW := hid hBW
    have v0 := cell_cells (i := 0) gv
    have v1 := cell_cells (i := 1) gv
    have v2 := cell_cells (i := 2) gv
    have v3 := cell_cells (i := 3) gv
    simp only [List.getElem?_toArray, List.getElem?_cons_zero, List.getElem?_cons_succ] at v0 v1 v2 v3
    have u0 := cells_frz (i := 0) gv
    have u1 := cells_frz (i := 1) gv
    have u2 := cells_frz (i := 2) gv
    have u3 := cells_frz (i := 3) gv
    have k0 := cell_cells (i := 0) gz
    have k1 := cell_cells (i := 1) gz
    have k2 := cell_cells (i := 2) gz
    have k3 := cell_cells (i := 3) gz
    simp only [List.getElem?_toArray, List.getElem?_cons_zero, List.getElem?_cons_succ] at k0 k1 k2 k3
    have z0 := cells_frz (i := 0) gz
    have z1 := cells_frz (i := 1) gz
    have z2 := cells_frz (i := 2) gz
    have z3 := cells_frz (i := 3) gz
    have hne1 : w4.heap.size ≠ w.heap.size + 1 := by omega
    have hne2 : w.heap.size + 1 ≠ w4.heap.size := by omega
    clear hBv gv hBx hBW gz
    go_wp2_with fail
    have HG5 : (w5.setCell ⟨w4.heap.size, 3, none⟩ (.slice Av (keysOf u).length nv)).heap[w.heap.size + 1]? = some (.cells #[.int .i64 0, .bool false, .int .i64 0, .slice none 0 0] 72 (0, 0)) := (Below.heap_setCell _ _ _ _ (by simp; omega)).trans HGZ.out
    have hS5 : (w5.setCell ⟨w4.heap.size, 3, none⟩ (.slice Av (keysOf u).length nv)).heap.size = w5.heap.size := by simp [World.setCell]
    obtain ⟨r0, r1, r2, r3, hK, hS⟩ := box4 HG5 (.int .i64 5) (.bool false) (.int .i64 0) (.slice Av (keysOf u).length nv)
    have hBB := below_box4 (HBW.out.setCell (p := ⟨w4.heap.size, 3, none⟩) (by simp; omega) (.slice Av (keysOf u).length nv)) (show w.heap.size ≤ w.heap.size + 1 by omega) (.int .i64 5) (.bool false) (.int .i64 0) (.slice Av (keysOf u).length nv)
    exact bodyPost_ret (v := .tuple #[.agg #[.int .i64 5, .bool false, .int .i64 0, .slice Av (keysOf u).length nv], .int .i64 0]) (by simp [results, Tryz.results40, go_sem, r0, r1, r2, r3] <;> rfl) rfl ⟨_, by rw [HVW.out.1, HVW.out.2]; rfl, by
      rw [HVW.out.1]
      exact HSL.out.up (fun b hb => (hK b (by have := hb.1; omega)).trans (Below.heap_setCell _ _ _ _ (by have := hb.1; simp; omega))) (fun b hb => ⟨by have := hb.1; omega, by rw [hS, hS5]; exact hb.2.1⟩) (fun _ _ _ h => h), hBB⟩
end Go.Proofs.YtlapdmgjfdelnaaGreat

namespace Go.Proofs.YtlapdmgjfdelnaaGreat
open Go.RowKit
set_option maxRecDepth 100000

/-- Are two views alike? -/
def vwEq (a b : Vw) : Bool := decide (a.kind = b.kind) && (decide (a.on = b.on) && (decide (a.n = b.n) && decide (a.l = b.l)))
end Go.Proofs.YtlapdmgjfdelnaaGreat

namespace Go.Proofs.YtlapdmgjfdelnaaGreat
open Go.RowKit
set_option maxRecDepth 100000

/-- Are a change's texts short? -/
def shortB (o : Opr) : Bool := decide (o.path.length ≤ 9) && (decide (o.s.size ≤ 99) && o.path.all fun k => decide (k.size ≤ 99))
set_option maxHeartbeats 2000000 in
theorem short15_any (o : Opr) (vp : Value) (w : World) (h : SlP w w.heap.size 1 StE vp o.path) (ho : o.Ok) :
    Calls Tryz.prog 85 #[.agg #[vp, .int .i64 o.act, .string o.s, .int .i64 o.n]] w fun e w' => e = .returned (.bool (shortB o)) ∧ Below w.heap.size w w' := by
  have hos := ho.s
  obtain ⟨A, n, rfl, c1, c2, c3⟩ := h
  unfold Big at c2 hos
  obtain ⟨path, act, s, nn⟩ := o
  simp only at c1 c2 c3 hos ⊢
  have HSB : Hid (shortB ⟨path, act, s, nn⟩ = (decide (path.length ≤ 9) && (decide (s.size ≤ 99) && path.all fun k => decide (k.size ≤ 99)))) := rfl
  have hb0 : Below w.heap.size w (w.alloc (.cells #[.slice A path.length n, .int .i64 act, .string s, .int .i64 nn] 67)) := (Below.refl _ w).alloc (Nat.le_refl _) _
  go_enter Tryz.func85, Tryz.ntmps85
  by_cases h9 : 9 < path.length
  · have HR : Hid (shortB ⟨path, act, s, nn⟩ = false) := by unfold Hid; rw [HSB.out, decide_eq_false (by omega)]; rfl
    have e9 : decide ((9 : Int) < (path.length : Int)) = true := decide_eq_true (by omega)
    go_wp2_with fail
    go_ret
    exact ⟨ret_bool HR.out.symm, hb0⟩
  have e9 : decide ((9 : Int) < (path.length : Int)) = false := decide_eq_false (by omega)
  have H9 : Hid (decide (path.length ≤ 9) = true) := decide_eq_true (by omega)
  by_cases h99 : 99 < s.size
  · have HR : Hid (shortB ⟨path, act, s, nn⟩ = false) := by unfold Hid; rw [HSB.out, H9.out, decide_eq_false (show ¬ s.size ≤ 99 by omega)]; rfl
    have e99 : decide ((99 : Int) < (s.size : Int)) = true := decide_eq_true (by omega)
    go_wp2_with fail
    go_ret
    exact ⟨ret_bool HR.out.symm, hb0⟩
  have e99 : decide ((99 : Int) < (s.size : Int)) = false := decide_eq_false (by omega)
  have HS2 : Hid (shortB ⟨path, act, s, nn⟩ = path.all fun k => decide (k.size ≤ 99)) := by unfold Hid; rw [HSB.out, H9.out, decide_eq_true (show s.size ≤ 99 by omega)]; rfl
  go_wp2_with fail
  go_loop [17] (fun i => ∃ k : Nat, k ≤ path.length ∧ i = .int .i64 k ∧ Hid (((path.take k).all fun k => decide (k.size ≤ 99)) = true)) (fun i => path.length - (intOf i).toNat)
  case atStart => exact ⟨0, Nat.zero_le _, rfl, rfl⟩
  case round =>
    obtain ⟨k, hk, rfl, hrel⟩ := hrel
    by_cases hlt : k < path.length
    · obtain ⟨x, hx⟩ : ∃ x, path[k]? = some x := ⟨_, List.getElem?_eq_getElem hlt⟩
      obtain ⟨b, off, rfl, hbB, hc⟩ := c3 (by rintro rfl; simp at hlt)
      obtain ⟨cs, ⟨rfl, hok⟩, _, hu⟩ := hc k _ hx
      have e0 : (w.alloc (.cells #[.slice (some ⟨b, off, none⟩) path.length n, .int .i64 act, .string s, .int .i64 nn] 67)).cell? ⟨b, off + k, none⟩ = some (.string x) := (hb0.cell hbB).trans (by simpa using hu 0 _ rfl)
      have HM : Hid (x ∈ path) := List.mem_of_getElem? hx
      have HT : Hid (((path.take (k + 1)).all fun k => decide (k.size ≤ 99)) = decide (x.size ≤ 99)) := by
        unfold Hid; rw [List.take_add_one, hx, List.all_append, hrel.out]; simp
      unfold Big at hok
      clear hu hc c3 hx
      by_cases he : 99 < x.size
      · have hq : decide ((99 : Int) < (x.size : Int)) = true := decide_eq_true (by omega)
        have HR : Hid (shortB ⟨path, act, s, nn⟩ = false) := by
          unfold Hid; rw [HS2.out, List.all_eq_false]; exact ⟨x, HM.out, by simpa using he⟩
        go_wp2_with fail
        go_ret
        exact ⟨ret_bool HR.out.symm, hb0⟩
      · have hq : decide ((99 : Int) < (x.size : Int)) = false := decide_eq_false (by omega)
        have HE : Hid (decide (x.size ≤ 99) = true) := decide_eq_true (by omega)
        go_wp2_with fail
        go_round
        case rel => exact ⟨k + 1, by omega, by go_num, by unfold Hid; rw [HT.out]; exact HE.out⟩
        case measure => simp [intOf]; omega
    · obtain rfl : k = path.length := by omega
      have hr := hrel.out
      rw [List.take_of_length_le (Nat.le_refl _)] at hr
      have HR := hid hr
      clear hr hrel
      go_wp2_with fail
      go_ret
      exact ⟨ret_bool (by rw [HS2.out, HR.out]), hb0⟩
end Go.Proofs.YtlapdmgjfdelnaaGreat

namespace Go.Proofs.YtlapdmgjfdelnaaGreat
open Go.RowKit
set_option maxRecDepth 100000

end Go.Proofs.YtlapdmgjfdelnaaGreat

namespace Go.Proofs.YtlapdmgjfdelnaaGreat
open Go.RowKit
set_option maxRecDepth 100000

/-- The fold of the first k changes. -/
def specK (l : List Ev) (path : List ByteArray) (k : Nat) : Bool × Int × List ByteArray := (l.take k).foldl (fun s e => if takB l path e then stepS (kindB (lastK path)) path s e else s) (false, 0, [])
end Go.Proofs.YtlapdmgjfdelnaaGreat

namespace Go.Proofs.YtlapdmgjfdelnaaGreat
open Go.RowKit
set_option maxRecDepth 100000

theorem app_err {t : Tr} {o : Opr} {d : Dt} (h : appI t o d ≠ 0) : appT t o d = .mk [] [] ∧ appC t o d = [] := by
  unfold appT appC
  exact ⟨if_neg fun q => h q.1, if_neg h⟩
theorem leafX_sz (u : Tr) (o : Opr) (d : Dt) (hz : u.sz ≤ 200) : (leafX u o d).1.sz ≤ 2 ∧ (leafX u o d).2.1.length ≤ 8000 := by
  have s0 : (Tr.mk [] []).sz = 0 := by simp [Tr.sz, Tr.szL]
  have s1 : ∀ e : En, (Tr.mk [e] []).sz = 1 := fun e => by simp [Tr.sz, Tr.szL]
  have s2 : ∀ (k : ByteArray) (e : En), (Tr.mk [] [(k, .mk [e] [])]).sz = 2 := fun k e => by simp [Tr.sz, Tr.szL]
  have h1 := seenC_len u d
  have h2 := seenC_len (kidT u o.s) d
  have h3 := kidT_sz u o.s
  have h6 : (ownD u).length ≤ u.sz := by unfold ownD; rw [List.length_map]; have := es_sz u; omega
  have h4 : (ctxOf [d]).length ≤ 8 := by have := ctxOf_len [d]; simpa using this
  have h5 : (ctxOf (d :: ownD u)).length ≤ 4 * (u.sz + 2) := by have := ctxOf_len (d :: ownD u); rw [List.length_cons] at this; omega
  have e1 : ∀ (b : Prop) [Decidable b] (X Y : Tr), (X.sz ≤ 2) → (Y.sz ≤ 2) → (if b then X else Y).sz ≤ 2 := fun b _ X Y h k => by split <;> assumption
  have e2 : ∀ (b : Prop) [Decidable b] (X : List Sp), X.length ≤ 8000 → (if b then X else []).length ≤ 8000 := fun b _ X h => by split; exact h; simp
  have c1 : ∀ e : En, (Tr.mk [e] []).sz ≤ 2 := fun e => by rw [s1]; omega
  have c2 : ∀ (k : ByteArray) (e : En), (Tr.mk [] [(k, .mk [e] [])]).sz ≤ 2 := fun k e => by rw [s2]; omega
  have c0 : (Tr.mk [] []).sz ≤ 2 := by rw [s0]; omega
  unfold leafX
  split
  · exact ⟨e1 _ _ _ (c1 _) c0, e2 _ _ (by omega)⟩
  split
  · exact ⟨c0, e2 _ _ (by omega)⟩
  split
  · exact ⟨e1 _ _ _ (c2 _ _) c0, e2 _ _ (by omega)⟩
  split
  · exact ⟨c0, e2 _ _ (by omega)⟩
  split
  · exact ⟨e1 _ _ _ (c1 _) c0, e2 _ (ctxOf [d]) (Nat.le_trans h4 (by omega))⟩
  split
  · exact ⟨e1 _ _ _ (c1 _) c0, e2 _ (ctxOf (d :: ownD u)) (Nat.le_trans h5 (by omega))⟩
  · exact ⟨c0, e2 _ _ (by omega)⟩
theorem updX_sz (t : Tr) (p : List ByteArray) (i : Nat) (x : Tr × List Sp × Int) : (updX t p i x).1.sz ≤ x.1.sz + 1 ∧ (updX t p i x).2.1.length ≤ x.2.1.length := by
  have s0 : (Tr.mk [] []).sz = 0 := by simp [Tr.sz, Tr.szL]
  unfold updX updT updC wrapT
  constructor
  · simp only
    split
    · split
      · split
        · omega
        · simp [Tr.sz, Tr.szL]; omega
      · omega
    · omega
  · simp only
    split
    · exact Nat.le_refl _
    · simp
/-- A box above m that holds what is known, in rows above m. -/
def BoxG (m : Nat) (V : World) (e : TypeId) (T : Tr) (c : List Sp) (s : Value) (wx : World) : Prop :=
  ∃ g, s = .pointer (some ⟨g, 0, none⟩) ∧ m ≤ g ∧ ∃ u v x, wx.heap[g]? = some (.cells #[u, v, x] e (0, 0)) ∧ T.rda wx (fun b => m ≤ b ∧ b < wx.heap.size) u v ∧ SlA wx (fun b => m ≤ b ∧ b < wx.heap.size) 3 SpE x c ∧ Below m V wx
theorem boxg_new {m N : Nat} {V w7 : World} {e : TypeId} {T : Tr} {c : List Sp} {u v x : Value} (hb : Below m V w7) (hm : m ≤ w7.heap.size) (hN : m ≤ N) (hr : T.rda w7 (fun b => N ≤ b ∧ b < w7.heap.size) u v) (hc : SlA w7 (fun b => N ≤ b ∧ b < w7.heap.size) 3 SpE x c) :
    BoxG m V e T c (.pointer (some ⟨w7.heap.size, 0, none⟩)) (w7.alloc (.cells #[u, v, x] e)) :=
  ⟨w7.heap.size, rfl, hm, u, v, x, heap_new rfl, rda_up (fun b hb => heap_old hb.2) (fun b hb => ⟨by omega, by rw [World.size_alloc]; omega⟩) _ _ _ hr, hc.up (fun b hb => heap_old hb.2) (fun b hb => ⟨by omega, by rw [World.size_alloc]; omega⟩) (fun _ _ _ h => h), hb.alloc hm _⟩
theorem boxg_set {m N g : Nat} {V w7 : World} {e : TypeId} {T : Tr} {c : List Sp} {u v x a b d : Value} (hbx : w7.heap[g]? = some (.cells #[a, b, d] e (0, 0))) (hb : Below m V w7) (hg : m ≤ g) (hgN : g < N) (hr : T.rda w7 (fun b => N ≤ b ∧ b < w7.heap.size) u v) (hc : SlA w7 (fun b => N ≤ b ∧ b < w7.heap.size) 3 SpE x c) :
    BoxG m V e T c (.pointer (some ⟨g, 0, none⟩)) (((w7.setCell ⟨g, 0, none⟩ u).setCell ⟨g, 1, none⟩ v).setCell ⟨g, 2, none⟩ x) := by
  obtain ⟨_, _, _, hK, hS⟩ := box3 hbx u v x
  have hW := cells_set (i := 2) (cells_set (i := 1) (cells_set (i := 0) hbx u) v) x
  exact ⟨g, rfl, hg, u, v, x, by simpa using hW, rda_up (fun b hb => hK b (by omega)) (fun b hb => ⟨by omega, by rw [hS]; exact hb.2⟩) _ _ _ hr, hc.up (fun b hb => hK b (by omega)) (fun b hb => ⟨by omega, by rw [hS]; exact hb.2⟩) (fun _ _ _ h => h), ((hb.setCell hg _).setCell hg _).setCell hg _⟩
theorem app_total {t : Tr} {o : Opr} {d : Dt} {X : Tr × List Sp × Int} (ho : OpOk o) (hi : opI o = 0) (ht : t.right 5 = true) (hc : chkT t d = true) (hX : X = upLoop t o.path o.path.length (leafX (getK t o.path) o d)) : (X.2.2 = 0 → appT t o d = X.1 ∧ appC t o d = X.2.1 ∧ appI t o d = 0) ∧ (X.2.2 ≠ 0 → appI t o d = X.2.2) := by
  have h := leaf_law ho hc
  rw [← hX] at h
  have hA : appI t o d = if fullB t o then 4 else 0 := by
    unfold appI
    rw [ht, hi, hc]; simp
  cases hf : fullB t o
  · rw [hf, if_neg (by simp)] at h
    rw [hf, if_neg (by simp)] at hA
    rw [h]
    refine ⟨fun _ => ⟨?_, ?_, hA⟩, fun h => absurd rfl h⟩
    · unfold appT
      simp only [hA, true_and]
    · unfold appC
      rw [if_pos hA]
  · rw [hf, if_pos rfl] at h
    rw [hf, if_pos rfl] at hA
    exact ⟨fun h0 => (by rw [h] at h0; cases h0), fun _ => (by rw [hA, h])⟩
set_option maxHeartbeats 8000000 in
theorem opApply_any (t : Tr) (o : Opr) (d : Dt) (ve vk vp : Value) (w : World) (h : t.rd w w.heap.size ve vk) (hp : SlP w w.heap.size 1 StE vp o.path) (ho : o.Ok) (hd : d.Ok) (hN : t.sz ≤ 200) :
    Calls Tryz.prog 84 #[.agg #[ve, vk], .agg #[vp, .int .i64 o.act, .string o.s, .int .i64 o.n], .agg #[.int .i64 d.dc, .int .i64 d.n]] w (RetCE w (appT t o d) (appC t o d) (appI t o d)) := by
  have HC : Hid (∀ w', Below w.heap.size w w' → t.rd w' w'.heap.size ve vk) := fun w' hb => rd_below hb hb.size _ _ _ h
  have HD : Hid (∀ w', Below w.heap.size w w' → SlP w' w'.heap.size 1 StE vp o.path) := fun w' hb => hp.imp hb hb.size fun _ _ _ h => h
  obtain ⟨A3, n3, A4, n4, rfl, rfl⟩ := rd_shape h
  obtain ⟨A5, n5, rfl, p1, p2, p3⟩ := hp
  unfold Big at p2
  have HO := hid ho
  obtain ⟨oa, on, os⟩ := ho
  obtain ⟨path, act, s, n⟩ := o
  simp only at oa on os p1 p2 p3 HD HO ⊢
  have hb0 := ((((Below.refl w.heap.size w).alloc (Nat.le_refl _) (.cells #[.slice A3 t.es.length n3, .slice A4 t.ks.length n4] 25)).alloc (by simp) (.cells #[.slice A5 path.length n5, .int .i64 act, .string s, .int .i64 n] 67)).alloc (by simp; omega) (.cells #[.int .i64 d.dc, .int .i64 d.n] 52)).alloc (by simp; omega) (.cells #[.slice none 0 0, .slice none 0 0, .slice none 0 0] 29)
  have HX : Hid (∀ W, Below (w.heap.size + 4) ((((w.alloc (.cells #[.slice A3 t.es.length n3, .slice A4 t.ks.length n4] 25)).alloc (.cells #[.slice A5 path.length n5, .int .i64 act, .string s, .int .i64 n] 67)).alloc (.cells #[.int .i64 d.dc, .int .i64 d.n] 52)).alloc (.cells #[.slice none 0 0, .slice none 0 0, .slice none 0 0] 29)) W →
      (Below w.heap.size w W ∧ t.rd W W.heap.size (.slice A3 t.es.length n3) (.slice A4 t.ks.length n4) ∧ SlP W W.heap.size 1 StE (.slice A5 path.length n5) path ∧ W.cell? ⟨w.heap.size, 0, none⟩ = some (.slice A3 t.es.length n3) ∧ W.cell? ⟨w.heap.size, 1, none⟩ = some (.slice A4 t.ks.length n4) ∧ W.cell? ⟨w.heap.size + 1, 0, none⟩ = some (.slice A5 path.length n5) ∧ W.cell? ⟨w.heap.size + 1, 1, none⟩ = some (.int .i64 act) ∧ W.cell? ⟨w.heap.size + 1, 2, none⟩ = some (.string s) ∧ W.cell? ⟨w.heap.size + 1, 3, none⟩ = some (.int .i64 n) ∧
        W.cell? ⟨w.heap.size + 2, 0, none⟩ = some (.int .i64 d.dc) ∧ W.cell? ⟨w.heap.size + 2, 1, none⟩ = some (.int .i64 d.n) ∧ W.heap[w.heap.size + 3]? = some (.cells #[.slice none 0 0, .slice none 0 0, .slice none 0 0] 29 (0, 0)))) := fun W hW => by
    have g0 : W.heap[w.heap.size]? = some (.cells #[.slice A3 t.es.length n3, .slice A4 t.ks.length n4] 25 (0, 0)) := (hW.block _ (by omega)).trans ((heap_old (by simp <;> omega)).trans ((heap_old (by simp <;> omega)).trans ((heap_old (by simp)).trans (heap_new rfl))))
    have g1 : W.heap[w.heap.size + 1]? = some (.cells #[.slice A5 path.length n5, .int .i64 act, .string s, .int .i64 n] 67 (0, 0)) := (hW.block _ (by omega)).trans ((heap_old (by simp <;> omega)).trans ((heap_old (by simp)).trans (heap_new (by simp))))
    have g2 : W.heap[w.heap.size + 2]? = some (.cells #[.int .i64 d.dc, .int .i64 d.n] 52 (0, 0)) := (hW.block _ (by omega)).trans ((heap_old (by simp)).trans (heap_new (by simp)))
    have g3 : W.heap[w.heap.size + 3]? = some (.cells #[.slice none 0 0, .slice none 0 0, .slice none 0 0] 29 (0, 0)) := (hW.block _ (by omega)).trans (heap_new (by simp))
    have hB := hb0.trans (hW.mono (by omega))
    exact ⟨hB, HC.out _ hB, HD.out _ hB, cell_cells (i := 0) g0, cell_cells (i := 1) g0, cell_cells (i := 0) g1, cell_cells (i := 1) g1, cell_cells (i := 2) g1, cell_cells (i := 3) g1, cell_cells (i := 0) g2, cell_cells (i := 1) g2, g3⟩
  clear h
  go_enter Tryz.func84, Tryz.ntmps84
  go_wp2_with fail
  obtain ⟨hB, rt, rp, c0, c1, p4, p5, p6, p7, d0, d1, g3⟩ := HX.out _ (Below.refl _ _)
  refine (tRight_any t _ _ _ rt).mono ?_
  cases ht : t.right 5
  · rintro e w1 ⟨rfl, hb1⟩
    have HBN := hid (hb1.mono (show w.heap.size + 4 ≤ _ by simp))
    have hAE : appI t ⟨path, act, s, n⟩ d = 1 := by unfold appI; rw [ht]; rfl
    have HAE := hid hAE
    obtain ⟨hAT, hAC⟩ := app_err (t := t) (o := ⟨path, act, s, n⟩) (d := d) (by rw [hAE]; first | decide | assumption)
    have HAT := hid hAT
    have HAC := hid hAC
    clear hAE hAT hAC
    clear hB rt rp c0 c1 p4 p5 p6 p7 d0 d1 g3 ht hb1
    have hG := (HX.out _ HBN.out).2.2.2.2.2.2.2.2.2.2.2
    have hBz := (HX.out _ HBN.out).1
    have HG := hid hG
    have HBZ := hid hBz
    have k0 := cell_cells (i := 0) hG
    have k1 := cell_cells (i := 1) hG
    have k2 := cell_cells (i := 2) hG
    simp only [List.getElem?_toArray, List.getElem?_cons_zero, List.getElem?_cons_succ] at k0 k1 k2
    have z0 := cells_frz (i := 0) hG
    have z1 := cells_frz (i := 1) hG
    have z2 := cells_frz (i := 2) hG
    clear hG hBz
    go_wp2_with fail
    obtain ⟨r0, r1, r2, q1, q2, q3⟩ := box_fin (N := w.heap.size + 4) (T := .mk [] []) (C := []) HG.out HBZ.out (by omega) (by omega) (rda_nil _ _) SlA.nil
    exact bodyPost_ret (v := .tuple #[.agg #[.slice none 0 0, .slice none 0 0, .slice none 0 0], .int .i64 1]) (by simp [results, Tryz.results84, go_sem, r0, r1, r2] <;> rfl) rfl ⟨_, _, _, by rw [HAE.out], by rw [HAT.out]; exact q1, by rw [HAC.out]; exact q2, q3⟩
  rintro e w1 ⟨rfl, hb1⟩
  have HBN := hid (hb1.mono (show w.heap.size + 4 ≤ _ by simp))
  clear hB rt rp c0 c1 p4 p5 p6 p7 d0 d1 g3 hb1
  obtain ⟨hB, rt, rp, c0, c1, p4, p5, p6, p7, d0, d1, g3⟩ := HX.out _ HBN.out
  have HT := hid ht
  clear ht
  go_wp2_with fail
  refine (check_any ⟨path, act, s, n⟩ _ _ rp HO.out).mono ?_
  by_cases hi : opI ⟨path, act, s, n⟩ = 0
  case neg =>
    rintro e w2 ⟨rfl, hb2⟩
    have HBN2 := hid (HBN.out.trans (hb2.mono (by have := HBN.out.size; simpa using this)))
    have hne : (opI ⟨path, act, s, n⟩ == 0) = false := by simpa using hi
    have hAE : appI t ⟨path, act, s, n⟩ d = (opI ⟨path, act, s, n⟩) := by unfold appI; rw [HT.out]; simp only [Bool.not_true, Bool.false_eq_true, if_false]; rw [if_pos hi]
    have HAE := hid hAE
    obtain ⟨hAT, hAC⟩ := app_err (t := t) (o := ⟨path, act, s, n⟩) (d := d) (by rw [hAE]; first | decide | assumption)
    have HAT := hid hAT
    have HAC := hid hAC
    clear hAE hAT hAC
    clear hB rt rp c0 c1 p4 p5 p6 p7 d0 d1 g3 hb2 hi HBN
    have HBN := HBN2
    have hG := (HX.out _ HBN.out).2.2.2.2.2.2.2.2.2.2.2
    have hBz := (HX.out _ HBN.out).1
    have HG := hid hG
    have HBZ := hid hBz
    have k0 := cell_cells (i := 0) hG
    have k1 := cell_cells (i := 1) hG
    have k2 := cell_cells (i := 2) hG
    simp only [List.getElem?_toArray, List.getElem?_cons_zero, List.getElem?_cons_succ] at k0 k1 k2
    have z0 := cells_frz (i := 0) hG
    have z1 := cells_frz (i := 1) hG
    have z2 := cells_frz (i := 2) hG
    clear hG hBz
    go_wp2_with fail
    obtain ⟨r0, r1, r2, q1, q2, q3⟩ := box_fin (N := w.heap.size + 4) (T := .mk [] []) (C := []) HG.out HBZ.out (by omega) (by omega) (rda_nil _ _) SlA.nil
    exact bodyPost_ret (v := .tuple #[.agg #[.slice none 0 0, .slice none 0 0, .slice none 0 0], .int .i64 (opI ⟨path, act, s, n⟩)]) (by simp [results, Tryz.results84, go_sem, r0, r1, r2] <;> rfl) rfl ⟨_, _, _, by rw [HAE.out], by rw [HAT.out]; exact q1, by rw [HAC.out]; exact q2, q3⟩
  rw [hi]
  rintro e w2 ⟨rfl, hb2⟩
  have HBN2 := hid (HBN.out.trans (hb2.mono (by have := HBN.out.size; simpa using this)))
  have HI := hid hi
  clear hB rt rp c0 c1 p4 p5 p6 p7 d0 d1 g3 hb2 hi HBN
  have HBN := HBN2
  clear HBN2
  obtain ⟨hB, rt, rp, c0, c1, p4, p5, p6, p7, d0, d1, g3⟩ := HX.out _ HBN.out
  go_wp2_with fail
  refine (fcheck_any t d _ _ _ rt (by omega)).mono ?_
  cases hk : chkT t d
  · have hck : chkI t d = 1 := by unfold chkI; rw [hk]; rfl
    rw [hck]
    rintro e w3 ⟨rfl, hb3⟩
    have HBN2 := hid (HBN.out.trans (hb3.mono (by have := HBN.out.size; simpa using this)))
    have hAE : appI t ⟨path, act, s, n⟩ d = 1 := by unfold appI; rw [HT.out, HI.out, hk]; rfl
    have HAE := hid hAE
    obtain ⟨hAT, hAC⟩ := app_err (t := t) (o := ⟨path, act, s, n⟩) (d := d) (by rw [hAE]; first | decide | assumption)
    have HAT := hid hAT
    have HAC := hid hAC
    clear hAE hAT hAC
    clear hB rt rp c0 c1 p4 p5 p6 p7 d0 d1 g3 hb3 hk hck HBN
    have HBN := HBN2
    have hG := (HX.out _ HBN.out).2.2.2.2.2.2.2.2.2.2.2
    have hBz := (HX.out _ HBN.out).1
    have HG := hid hG
    have HBZ := hid hBz
    have k0 := cell_cells (i := 0) hG
    have k1 := cell_cells (i := 1) hG
    have k2 := cell_cells (i := 2) hG
    simp only [List.getElem?_toArray, List.getElem?_cons_zero, List.getElem?_cons_succ] at k0 k1 k2
    have z0 := cells_frz (i := 0) hG
    have z1 := cells_frz (i := 1) hG
    have z2 := cells_frz (i := 2) hG
    clear hG hBz
    go_wp2_with fail
    obtain ⟨r0, r1, r2, q1, q2, q3⟩ := box_fin (N := w.heap.size + 4) (T := .mk [] []) (C := []) HG.out HBZ.out (by omega) (by omega) (rda_nil _ _) SlA.nil
    exact bodyPost_ret (v := .tuple #[.agg #[.slice none 0 0, .slice none 0 0, .slice none 0 0], .int .i64 1]) (by simp [results, Tryz.results84, go_sem, r0, r1, r2] <;> rfl) rfl ⟨_, _, _, by rw [HAE.out], by rw [HAT.out]; exact q1, by rw [HAC.out]; exact q2, q3⟩
  have hck : chkI t d = 0 := by unfold chkI; rw [hk]; rfl
  rw [hck]
  rintro e w3 ⟨rfl, hb3⟩
  have HBN2 := hid (HBN.out.trans (hb3.mono (by have := HBN.out.size; simpa using this)))
  have HK := hid hk
  clear hB rt rp c0 c1 p4 p5 p6 p7 d0 d1 g3 hb3 hk hck HBN
  have HBN := HBN2
  clear HBN2
  have hsN := HBN.out.size
  simp only [World.size_alloc] at hsN
  obtain ⟨hB, rt, rp, c0, c1, p4, p5, p6, p7, d0, d1, g3⟩ := HX.out _ HBN.out
  clear g3
  go_upto_region 9 with (fail)
  obtain ⟨u, HU⟩ : ∃ u, Hid (tgetT t path = u) := ⟨_, rfl⟩
  obtain ⟨⟨LT, LC, LE⟩, HLX⟩ : ∃ q, Hid (leafX u ⟨path, act, s, n⟩ d = q) := ⟨_, rfl⟩
  have HUK : Hid (getK t path = u) := (tgetT_eq HT.out path).symm.trans HU.out
  have hus : u.sz ≤ 200 := by rw [← HUK.out]; exact Nat.le_trans (getK_szle t path) hN
  obtain ⟨hLs, hLl⟩ := leafX_sz u ⟨path, act, s, n⟩ d hus
  rw [HLX.out] at hLs hLl
  simp only at hLs hLl
  have HDO := hid hd
  have HY : Hid (∀ W, Below w3.heap.size w3 W → (Below w.heap.size w W ∧ t.rd W W.heap.size (.slice A3 t.es.length n3) (.slice A4 t.ks.length n4) ∧ SlP W W.heap.size 1 StE (.slice A5 path.length n5) path)) := fun W hW => by
    obtain ⟨a, b, c, _⟩ := HX.out W (HBN.out.trans (hW.mono (by omega)))
    exact ⟨a, b, c⟩
  have HKK : Hid (∀ W, Below w3.heap.size w3 W → (W.cell? ⟨w.heap.size, 0, none⟩ = some (.slice A3 t.es.length n3) ∧ W.cell? ⟨w.heap.size, 1, none⟩ = some (.slice A4 t.ks.length n4) ∧ W.cell? ⟨w.heap.size + 1, 0, none⟩ = some (.slice A5 path.length n5) ∧ W.cell? ⟨w.heap.size + 1, 1, none⟩ = some (.int .i64 act) ∧ W.cell? ⟨w.heap.size + 1, 2, none⟩ = some (.string s) ∧ W.cell? ⟨w.heap.size + 1, 3, none⟩ = some (.int .i64 n) ∧ W.cell? ⟨w.heap.size + 2, 0, none⟩ = some (.int .i64 d.dc) ∧ W.cell? ⟨w.heap.size + 2, 1, none⟩ = some (.int .i64 d.n))) := fun W hW => by
    obtain ⟨_, _, _, a0, a1, a2, a3, a4, a5, a6, a7, _⟩ := HX.out W (HBN.out.trans (hW.mono (by omega)))
    exact ⟨a0, a1, a2, a3, a4, a5, a6, a7⟩
  clear hB rt rp hus
  go_cut [10, 11] (fun s10 s11 wx => s11 = .int .i64 LE ∧ BoxG w3.heap.size w3 29 LT LC s10 wx)
  case first =>
    go_region_held3 (fun W => W.cell? ⟨w.heap.size, 0, none⟩ = some (.slice A3 t.es.length n3) ∧ W.cell? ⟨w.heap.size, 1, none⟩ = some (.slice A4 t.ks.length n4) ∧ W.cell? ⟨w.heap.size + 1, 0, none⟩ = some (.slice A5 path.length n5) ∧ W.cell? ⟨w.heap.size + 1, 1, none⟩ = some (.int .i64 act) ∧ W.cell? ⟨w.heap.size + 1, 2, none⟩ = some (.string s) ∧ W.cell? ⟨w.heap.size + 1, 3, none⟩ = some (.int .i64 n) ∧ W.cell? ⟨w.heap.size + 2, 0, none⟩ = some (.int .i64 d.dc) ∧ W.cell? ⟨w.heap.size + 2, 1, none⟩ = some (.int .i64 d.n))
      (first | go_keep | exact HKK.out _ hbr5.out | exact HKK.out _ (hbr5.out.trans (by go_grown)) | exact HKK.out _ hbr4.out | exact HKK.out _ (hbr4.out.trans (by go_grown)) | exact HKK.out _ (((hbr5.out.setCell (by first | (simp; done) | (simp; omega)) _).setCell (by first | (simp; done) | (simp; omega)) _).setCell (by first | (simp; done) | (simp; omega)) _) | exact HKK.out _ (by go_grown) | fail)
      (first
        | (go_at_call 138; go_loud ((refine (leaf_any u ⟨path, act, s, n⟩ d _ _ _ _ (HRu.out _ (by go_grown)) (HY.out _ (hbr4.out.trans (by go_grown))).2.2 HO.out HDO.out (by have := hN; rw [← HUK.out]; exact Nat.le_trans (getK_szle t path) (by omega))).mono ?_); rw [HLX.out]; dsimp only; rintro e w5 ⟨xe5, xk5, xc5, rfl, hrd5, hsl5, hb⟩; have hbr5 : Hid (Below w3.heap.size w3 w5) := hid (Below.trans (hbr4.out.trans (by go_grown)) (hb.mono (by first | omega | (simp; done) | (simp; omega)))); have hsr5 := hbr5.out.size; obtain ⟨Ar5, nr5, Br5, mr5, hv1, hv2⟩ := rda_shape hrd5; subst hv1; subst hv2; obtain ⟨Dr5, kr5, hv3⟩ := hsl5.shape; subst hv3; have HR5 := hid hrd5; have HL5 := hid hsl5; clear hrd5 hsl5; (first | (have HG5 : Hid (w5.heap[w4.heap.size]? = some (.cells #[.slice none 0 0, .slice none 0 0, .slice none 0 0] 29 (0, 0))) := hid (z_new hb); have k0 : w5.cell? ⟨w4.heap.size, 0, none⟩ = some (.slice none 0 0) := cell_cells (i := 0) HG5.out; have k1 : w5.cell? ⟨w4.heap.size, 1, none⟩ = some (.slice none 0 0) := cell_cells (i := 1) HG5.out; have k2 : w5.cell? ⟨w4.heap.size, 2, none⟩ = some (.slice none 0 0) := cell_cells (i := 2) HG5.out; have z0 := cells_frz (i := 0) HG5.out; have z1 := cells_frz (i := 1) HG5.out; have z2 := cells_frz (i := 2) HG5.out; have hna0 : w.heap.size ≠ w4.heap.size := (by omega); have hnb0 : w4.heap.size ≠ w.heap.size := (by omega); have hna1 : (w.heap.size + 1) ≠ w4.heap.size := (by omega); have hnb1 : w4.heap.size ≠ (w.heap.size + 1) := (by omega); have hna2 : (w.heap.size + 2) ≠ w4.heap.size := (by omega); have hnb2 : w4.heap.size ≠ (w.heap.size + 2) := (by omega)) | (have HG5 : Hid (w5.heap[w3.heap.size]? = some (.cells #[.slice none 0 0, .slice none 0 0, .slice none 0 0] 29 (0, 0))) := hid ((hb.block _ (lt_of_block HGA.out)).trans HGA.out); have k0 : w5.cell? ⟨w3.heap.size, 0, none⟩ = some (.slice none 0 0) := cell_cells (i := 0) HG5.out; have k1 : w5.cell? ⟨w3.heap.size, 1, none⟩ = some (.slice none 0 0) := cell_cells (i := 1) HG5.out; have k2 : w5.cell? ⟨w3.heap.size, 2, none⟩ = some (.slice none 0 0) := cell_cells (i := 2) HG5.out; have z0 := cells_frz (i := 0) HG5.out; have z1 := cells_frz (i := 1) HG5.out; have z2 := cells_frz (i := 2) HG5.out; have hna0 : w.heap.size ≠ w3.heap.size := (by omega); have hnb0 : w3.heap.size ≠ w.heap.size := (by omega); have hna1 : (w.heap.size + 1) ≠ w3.heap.size := (by omega); have hnb1 : w3.heap.size ≠ (w.heap.size + 1) := (by omega); have hna2 : (w.heap.size + 2) ≠ w3.heap.size := (by omega); have hnb2 : w3.heap.size ≠ (w.heap.size + 2) := (by omega)) | skip); clear hb))
        | (go_at_call 89; go_loud ((refine (tget_any t path _ _ _ _ (HY.out _ (by go_grown)).2.1 (HY.out _ (by go_grown)).2.2 (by omega)).mono ?_); rw [HU.out]; rintro e w4 ⟨xe4, xk4, rfl, hrd4, hb⟩; have hbr4 : Hid (Below w3.heap.size w3 w4) := hid (Below.trans (by go_grown) (hb.mono (by first | omega | (simp; done) | (simp; omega)))); have hsr4 := hbr4.out.size; obtain ⟨Ar4, nr4, Br4, mr4, hv1, hv2⟩ := rda_shape hrd4; subst hv1; subst hv2; have HR4 := hid hrd4; have HRu : Hid (∀ W, Below w4.heap.size w4 W → u.rd W W.heap.size (.slice Ar4 u.es.length nr4) (.slice Br4 u.ks.length mr4)) := fun W hW => rda_rd HR4.out (fun b hb => hb.2) hW; clear hrd4; (first | (have HGA : Hid (w4.heap[w3.heap.size]? = some (.cells #[.slice none 0 0, .slice none 0 0, .slice none 0 0] 29 (0, 0))) := hid (z_new2D hb)) | (have HGA : Hid (w4.heap[w3.heap.size]? = some (.cells #[.slice none 0 0, .slice none 0 0, .slice none 0 0] 29 (0, 0))) := hid (z_newD hb)) | (have HGA : Hid (w4.heap[w3.heap.size]? = some (.cells #[.slice none 0 0, .slice none 0 0, .slice none 0 0] 29 (0, 0))) := hid (z_new2 hb)) | (have HGA : Hid (w4.heap[w3.heap.size]? = some (.cells #[.slice none 0 0, .slice none 0 0, .slice none 0 0] 29 (0, 0))) := hid (z_new hb)) | skip); clear hb)))
    all_goals
      go_wp2_with fail
      go_meet
      case rel => exact ⟨rfl, (by first | exact boxg_new hbr5.out hbr5.out.size (by first | omega | (simp; omega)) HR5.out HL5.out | exact boxg_set HG5.out hbr5.out (by omega) (by first | (simp; done) | (simp; omega) | exact lt_of_block HGA.out | (have := lt_of_block HGA.out; simp; omega)) HR5.out HL5.out)⟩
  case rest =>
    obtain ⟨rfl, g, rfl, hgm, xe, xk, xc, hG, hrd, hsl, hbz⟩ := hcut
    obtain ⟨wq, hwq⟩ : ∃ z : World, z = wc := ⟨wc, rfl⟩
    subst hwq
    obtain ⟨Aa, na, Ab, nb, rfl, rfl⟩ := rda_shape hrd
    obtain ⟨Ac, nc, rfl⟩ := hsl.shape
    have hgl := lt_of_block hG
    obtain ⟨a0, a1, a2, a3, a4, a5, a6, a7⟩ := HKK.out _ hbz
    have hpl := path_ok (op_ok HI.out).path
    have hpl1 := hpl.1
    have hpl2 := hpl.2.1
    simp only at hpl1 hpl2
    clear hpl
    obtain ⟨P, HP⟩ : ∃ P, Hid (upLoop t path path.length (LT, LC, LE) = P) := ⟨_, rfl⟩
    go_wp2_with fail
    go_loopw [11, 12] (fun e i wr => ∃ (j : Nat) (X : Tr × List Sp × Int), j ≤ path.length ∧ i = .int .i64 ((j : Int) - 1) ∧ e = .int .i64 X.2.2 ∧ Hid (upLoop t path j X = P) ∧ X.1.sz + j ≤ 2 + path.length ∧ X.2.1.length ≤ 8000 ∧ (∃ xa xb xd, wr.heap[g]? = some (.cells #[xa, xb, xd] 29 (0, 0)) ∧ X.1.rda wr (fun b => w3.heap.size ≤ b ∧ b < wr.heap.size) xa xb ∧ SlA wr (fun b => w3.heap.size ≤ b ∧ b < wr.heap.size) 3 SpE xd X.2.1) ∧ Below w3.heap.size w3 wr) (fun _ i _ => (intOf i + 1).toNat)
    case atStart => exact ⟨path.length, (LT, LC, LE), Nat.le_refl _, by go_num, rfl, HP.out, by simp only; omega, hLl, ⟨_, _, _, hG, hrd, hsl⟩, hbz⟩
    case round =>
      obtain ⟨j, ⟨XT, XC, XE⟩, hj, rfl, rfl, hup, hxs, hxl, ⟨xa, xb, xd, hGr, hrr, hsr⟩, hbr⟩ := hrel
      simp only at hup hxs hxl hrr hsr
      obtain ⟨Aa', na', Ab', nb', rfl, rfl⟩ := rda_shape hrr
      obtain ⟨Ac', nc', rfl⟩ := hsr.shape
      have hgr := lt_of_block hGr
      by_cases hex : j = 0 ∨ XE ≠ 0
      · have HXP : Hid ((XT, XC, XE) = P) := by
          rcases hex with rfl | hne
          · exact hup.out
          · have := hup.out; rw [upLoop_err hne] at this; exact this
        have hTL := app_total (X := (XT, XC, XE)) (op_ok HI.out) HI.out HT.out HK.out (by rw [HXP.out, ← HP.out]; simp only; rw [HUK.out, HLX.out])
        simp only at hTL
        have hGZ := (HX.out wr (HBN.out.trans (hbr.mono (by omega)))).2.2.2.2.2.2.2.2.2.2.2
        have hBw := (HX.out wr (HBN.out.trans (hbr.mono (by omega)))).1
        have q0 := cell_cells (i := 0) hGr
        have q1 := cell_cells (i := 1) hGr
        have q2 := cell_cells (i := 2) hGr
        simp only [List.getElem?_toArray, List.getElem?_cons_zero, List.getElem?_cons_succ] at q0 q1 q2
        have k0 := cell_cells (i := 0) hGZ
        have k1 := cell_cells (i := 1) hGZ
        have k2 := cell_cells (i := 2) hGZ
        simp only [List.getElem?_toArray, List.getElem?_cons_zero, List.getElem?_cons_succ] at k0 k1 k2
        have z0 := cells_frz (i := 0) hGZ
        have z1 := cells_frz (i := 1) hGZ
        have z2 := cells_frz (i := 2) hGZ
        have HGZ := hid hGZ
        have HBw := hid hBw
        have HRR := hid hrr
        have HSR := hid hsr
        have hgne : g ≠ w.heap.size + 3 := by omega
        have hgne' : g ≠ w.heap.size + 1 + 1 + 1 := by omega
        clear hGZ hBw hGr hrr hsr hup HXP
        by_cases he : XE = 0
        · subst he
          obtain ⟨hA1, hA2, hA3⟩ := hTL.1 rfl
          have HA1 := hid hA1
          have HA2 := hid hA2
          have HA3 := hid hA3
          have hj0 : j = 0 := by rcases hex with h | h; exact h; exact absurd rfl h
          subst hj0
          clear hA1 hA2 hA3 hTL hex
          go_wp2_with fail
          obtain ⟨r0, r1, r2, q3, q4, q5⟩ := box_fin (N := w3.heap.size) HGZ.out HBw.out (by omega) (by omega) HRR.out HSR.out
          exact bodyPost_ret (v := .tuple #[.agg #[.slice Aa' XT.es.length na', .slice Ab' XT.ks.length nb', .slice Ac' XC.length nc'], .int .i64 0]) (by simp [results, Tryz.results84, go_sem, r0, r1, r2] <;> rfl) rfl ⟨_, _, _, by rw [HA3.out], by rw [HA1.out]; exact q3, by rw [HA2.out]; exact q4, q5⟩
        · have hA := hTL.2 he
          have HAE := hid hA
          obtain ⟨hAT, hAC⟩ := app_err (t := t) (o := ⟨path, act, s, n⟩) (d := d) (by rw [hA]; exact he)
          have HAT := hid hAT
          have HAC := hid hAC
          have hne : (XE == 0) = false := by simpa using he
          clear hA hAT hAC hTL hex he
          go_wp2_with fail
          all_goals (
            obtain ⟨r0, r1, r2, q3, q4, q5⟩ := box_fin (N := w3.heap.size) (T := .mk [] []) (C := []) HGZ.out HBw.out (by omega) (by omega) (rda_nil _ _) SlA.nil
            exact bodyPost_ret (v := .tuple #[.agg #[.slice none 0 0, .slice none 0 0, .slice none 0 0], .int .i64 XE]) (by simp [results, Tryz.results84, go_sem, r0, r1, r2] <;> rfl) rfl ⟨_, _, _, by rw [HAE.out], by rw [HAT.out]; exact q3, by rw [HAC.out]; exact q4, q5⟩)
      · have hj1 : j ≠ 0 := fun h => hex (.inl h)
        have hXE : XE = 0 := by
          by_cases h : XE = 0
          · exact h
          · exact absurd (.inr h) hex
        subst hXE
        obtain ⟨k, rfl⟩ : ∃ k, j = k + 1 := ⟨j - 1, by omega⟩
        have hkl : k < path.length := by omega
        obtain ⟨key, hkey⟩ : ∃ key, path[k]? = some key := ⟨_, List.getElem?_eq_getElem hkl⟩
        obtain ⟨bq, offq, hA5, hbq, hcq⟩ := p3 (by rintro rfl; simp at hpl1)
        subst hA5
        obtain ⟨cs, ⟨rfl, hkok⟩, _, hku⟩ := hcq k _ hkey
        have HKOK := hid hkok
        rw [show (((k + 1 : Nat) : Int) - 1) = (k : Int) from by omega]
        obtain ⟨T', HT'⟩ : ∃ q, Hid (tgetT t (path.take k) = q) := ⟨_, rfl⟩
        obtain ⟨UT, HU1⟩ : ∃ q, Hid (updT T' key XT XC = q) := ⟨_, rfl⟩
        obtain ⟨UC, HU2⟩ : ∃ q, Hid (updC T' key XT XC = q) := ⟨_, rfl⟩
        obtain ⟨UE, HU3⟩ : ∃ q, Hid (updE T' key XT XC = q) := ⟨_, rfl⟩
        have HUX : Hid (updX t path k (XT, XC, 0) = (UT, UC, UE)) := by
          unfold Hid updX
          rw [hkey]
          simp only [Option.getD_some]
          rw [HT'.out, HU1.out, HU2.out, HU3.out]
        have HUP : Hid (upLoop t path k (UT, UC, UE) = P) := by
          have := hup.out
          rw [upLoop, if_pos rfl, HUX.out] at this
          exact this
        have hTs : T'.sz ≤ 200 := by rw [← HT'.out, tgetT_eq HT.out]; exact Nat.le_trans (getK_szle t _) hN
        have hus := updX_sz t path k (XT, XC, 0)
        rw [HUX.out] at hus
        simp only at hus
        have HGr := hid hGr
        have HY2 : Hid (∀ W, Below wr.heap.size wr W → (t.rd W W.heap.size (.slice A3 t.es.length n3) (.slice A4 t.ks.length n4) ∧ SlP W W.heap.size 1 StE (.slice (some ⟨bq, offq, none⟩) path.length n5) path ∧ XT.rd W W.heap.size (.slice Aa' XT.es.length na') (.slice Ab' XT.ks.length nb') ∧ SlP W W.heap.size 3 SpE (.slice Ac' XC.length nc') XC)) := fun W hW => by
          obtain ⟨_, b, c⟩ := HY.out W (hbr.trans (hW.mono hbr.size))
          exact ⟨b, c, rda_rd hrr (fun b hb => hb.2) hW, hsr.slp (fun b hb => hb.2) hW⟩
        have HK2 : Hid (∀ W, Below wr.heap.size wr W → (W.cell? ⟨w.heap.size, 0, none⟩ = some (.slice A3 t.es.length n3) ∧ W.cell? ⟨w.heap.size, 1, none⟩ = some (.slice A4 t.ks.length n4) ∧ W.cell? ⟨w.heap.size + 1, 0, none⟩ = some (.slice (some ⟨bq, offq, none⟩) path.length n5) ∧ W.cell? ⟨g, 0, none⟩ = some (.slice Aa' XT.es.length na') ∧ W.cell? ⟨g, 1, none⟩ = some (.slice Ab' XT.ks.length nb') ∧ W.cell? ⟨g, 2, none⟩ = some (.slice Ac' XC.length nc') ∧ W.cell? ⟨bq, offq + k, none⟩ = some (.string key))) := fun W hW => by
          obtain ⟨a0, a1, a2, _⟩ := HKK.out W (hbr.trans (hW.mono hbr.size))
          have g1 := (hW.block g hgr).trans hGr
          have hBw := (HY.out wr hbr).1
          exact ⟨a0, a1, a2, cell_cells (i := 0) g1, cell_cells (i := 1) g1, cell_cells (i := 2) g1, (hW.cell (p := ⟨bq, offq + k, none⟩) (by show bq < _; have := hBw.size; omega)).trans ((hBw.cell hbq).trans (by simpa using hku 0 _ rfl))⟩
        have hsr3 := hbr.size
        have hk5 : k ≤ n5 := by omega
        have hk6 : (k : Int) ≤ (n5 : Int) := by omega
        have hk7 : (k : Int) ≤ (path.length : Int) := by omega
        have hk8 : (0 : Int) ≤ (k : Int) := by omega
        have hk9 : k ≤ path.length := by omega
        have hk10 : ¬ (n5 < k) := by omega
        have HKQ := HKK
        have HKU : Hid (w.cell? ⟨bq, offq + k, none⟩ = some (.string key)) := hid (by simpa using hku 0 _ rfl)
        clear hku hcq p3 hkey hkok hup hGr hrr hsr HKK hG hrd hsl
        obtain ⟨x0, x1, x2, x3, x4, x5, x6⟩ := HK2.out _ (Below.refl _ _)
        have HK4 : Hid (∀ W, Below w3.heap.size w3 W → (W.cell? ⟨w.heap.size, 0, none⟩ = some (.slice A3 t.es.length n3) ∧ W.cell? ⟨w.heap.size, 1, none⟩ = some (.slice A4 t.ks.length n4) ∧ W.cell? ⟨w.heap.size + 1, 0, none⟩ = some (.slice (some ⟨bq, offq, none⟩) path.length n5) ∧ W.cell? ⟨bq, offq + k, none⟩ = some (.string key))) := fun W hW => by
          obtain ⟨a0, a1, a2, _⟩ := HKQ.out W hW
          have hBw := (HY.out W hW).1
          exact ⟨a0, a1, a2, (hBw.cell hbq).trans HKU.out⟩
        obtain ⟨y0, y1, y2, y3, y4, y5, y6⟩ := HK2.out wr.drew ((Below.refl wr.heap.size wr).drew)
        go_upto_block 1 with (fail)
        go_cut [11] (fun s11 wx => s11 = .int .i64 UE ∧ BoxG w3.heap.size w3 29 UT UC (.pointer (some ⟨g, 0, none⟩)) wx)
        case first =>
          go_upto_region 13 with (fail)
          refine wp_region_held_drew (S := (fun W => W.cell? ⟨w.heap.size, 0, none⟩ = some (.slice A3 t.es.length n3) ∧ W.cell? ⟨w.heap.size, 1, none⟩ = some (.slice A4 t.ks.length n4) ∧ W.cell? ⟨w.heap.size + 1, 0, none⟩ = some (.slice (some ⟨bq, offq, none⟩) path.length n5) ∧ W.cell? ⟨bq, offq + k, none⟩ = some (.string key))) (by kernel_rfl) ?_ (fun hHeld => ?_)
          · go_keep
          refine wpAnyH_take (i := 0) (oi := _) (v := ?v0) rfl (by kernel_rfl) (by kernel_rfl) (by kernel_rfl) (fun _ _ _ h => h) (Or.inl ⟨by rfl, ?h0⟩) (by assumption) ?_
          case h0 => (intro w hSw; (try dsimp only at hSw); go_simp; (try with_reducible rfl))
          simp only [Act.put, List.setIfInBounds_toArray, List.set_cons_zero, List.set_cons_succ, List.getElem_toArray, List.getElem_cons_zero]
          refine wpAnyH_take (i := 1) (oi := _) (v := ?v1) rfl (by kernel_rfl) (by kernel_rfl) (by kernel_rfl) (fun _ _ _ h => h) (Or.inl ⟨by rfl, ?h1⟩) (by assumption) ?_
          case h1 => (intro w hSw; (try dsimp only at hSw); go_simp; (try with_reducible rfl))
          simp only [Act.put, List.setIfInBounds_toArray, List.set_cons_zero, List.set_cons_succ, List.getElem_toArray, List.getElem_cons_zero, List.getElem_cons_succ]
          refine wpAnyH_take (i := 2) (oi := _) (v := ?v2) rfl (by kernel_rfl) (by kernel_rfl) (by kernel_rfl) (fun _ _ _ h => h) (Or.inl ⟨by rfl, ?h2⟩) (by assumption) ?_
          case h2 => (intro w hSw; (try dsimp only at hSw); go_simp; (try with_reducible rfl))
          simp only [Act.put, List.setIfInBounds_toArray, List.set_cons_zero, List.set_cons_succ, List.getElem_toArray, List.getElem_cons_zero, List.getElem_cons_succ]
          refine wpAnyH_take (i := 3) (oi := _) (v := ?v3) rfl (by kernel_rfl) (by kernel_rfl) (by kernel_rfl) (fun _ _ _ h => h) (Or.inl ⟨by rfl, ?h3⟩) (by assumption) ?_
          case h3 => (intro w hSw; (try dsimp only at hSw); go_simp; (try with_reducible rfl))
          simp only [Act.put, List.setIfInBounds_toArray, List.set_cons_zero, List.set_cons_succ, List.getElem_toArray, List.getElem_cons_zero, List.getElem_cons_succ]
          refine wpAnyH_take (i := 4) (oi := _) (v := ?v4) rfl (by kernel_rfl) (by kernel_rfl) (by kernel_rfl) (fun _ _ _ h => h) (Or.inl ⟨by rfl, ?h4⟩) (by assumption) ?_
          case h4 => (intro w hSw; (try dsimp only at hSw); go_simp; (try with_reducible rfl))
          simp only [Act.put, List.setIfInBounds_toArray, List.set_cons_zero, List.set_cons_succ, List.getElem_toArray, List.getElem_cons_zero, List.getElem_cons_succ]
          refine wpAnyH_take (i := 6) (oi := _) (v := ?v6) rfl (by kernel_rfl) (by kernel_rfl) (by kernel_rfl) (fun _ _ _ h => h) (Or.inl ⟨by rfl, ?h6⟩) (by assumption) ?_
          case h6 => (intro w hSw; (try dsimp only at hSw); go_simp; (try with_reducible rfl))
          simp only [Act.put, List.setIfInBounds_toArray, List.set_cons_zero, List.set_cons_succ, List.getElem_toArray, List.getElem_cons_zero, List.getElem_cons_succ]
          refine wpAnyH_take (i := 7) (oi := _) (v := ?v7) rfl (by kernel_rfl) (by kernel_rfl) (by kernel_rfl) (fun _ _ _ h => h) (Or.inl ⟨by rfl, ?h7⟩) (by assumption) ?_
          case h7 => (intro w hSw; (try dsimp only at hSw); go_simp; (try with_reducible rfl))
          simp only [Act.put, List.setIfInBounds_toArray, List.set_cons_zero, List.set_cons_succ, List.getElem_toArray, List.getElem_cons_zero, List.getElem_cons_succ]
          refine wpAnyH_take (i := 8) (oi := _) (v := ?v8) rfl (by kernel_rfl) (by kernel_rfl) (by kernel_rfl) (fun _ _ _ h => h) (Or.inl ⟨by rfl, ?h8⟩) (by assumption) ?_
          case h8 => (intro w hSw; (try dsimp only at hSw); go_simp; (try with_reducible rfl))
          simp only [Act.put, List.setIfInBounds_toArray, List.set_cons_zero, List.set_cons_succ, List.getElem_toArray, List.getElem_cons_zero, List.getElem_cons_succ]
          refine wpAnyH_take (i := 9) (oi := _) (v := ?v9) rfl (by kernel_rfl) (by kernel_rfl) (by kernel_rfl) (fun _ _ _ h => h) (Or.inl ⟨by rfl, ?h9⟩) (by assumption) ?_
          case h9 => (intro w hSw; (try dsimp only at hSw); go_simp; (try with_reducible rfl))
          simp only [Act.put, List.setIfInBounds_toArray, List.set_cons_zero, List.set_cons_succ, List.getElem_toArray, List.getElem_cons_zero, List.getElem_cons_succ]
          refine wpAnyH_take (i := 10) (oi := _) (v := ?v10) rfl (by kernel_rfl) (by kernel_rfl) (by kernel_rfl) (fun _ _ _ h => h) (Or.inl ⟨by rfl, ?h10⟩) (by assumption) ?_
          case h10 => (intro w hSw; (try dsimp only at hSw); go_simp; (try with_reducible rfl))
          simp only [Act.put, List.setIfInBounds_toArray, List.set_cons_zero, List.set_cons_succ, List.getElem_toArray, List.getElem_cons_zero, List.getElem_cons_succ]
          refine wpAnyH_ready (rs := [5, 11]) (by kernel_rfl) (by simp) ?_
          refine AllReadyH.cons (o := _) rfl (fun K hK => ?_) (AllReadyH.cons (o := _) rfl (fun K hK => ?_) AllReadyH.nil)
          · (go_simp; (go_at_call 89; go_loud ((refine (tget_any t (path.take k) _ _ _ _ (HY2.out _ (by go_grown)).1 ((HY2.out _ (by go_grown)).2.1.takeK (by omega)) (by omega)).mono ?_); rw [HT'.out]; rintro e w4 ⟨xe4, xk4, rfl, hrd4, hb⟩; have hbr4 : Hid (Below wr.heap.size wr w4) := hid (Below.trans (by go_grown) (hb.mono (by first | omega | (simp; done) | (simp; omega)))); have hsr4 := hbr4.out.size; obtain ⟨Ar4, nr4, Br4, mr4, hv1, hv2⟩ := rda_shape hrd4; subst hv1; subst hv2; have HRT : Hid (∀ W, Below w4.heap.size w4 W → T'.rd W W.heap.size (.slice Ar4 T'.es.length nr4) (.slice Br4 T'.ks.length mr4)) := fun W hW => rda_rd hrd4 (fun b hb => hb.2) hW; obtain ⟨u0, u1, u2, u3, u4, u5, u6⟩ := HK2.out w4 hbr4.out; clear hb)); go_wp2_with fail)
            refine hK.out _ _ ?_ (fun hHeld5 => ?_)
            · (first | go_keep | exact HK4.out _ ((((hbr.trans (hbr5.out.mono hsr3)).setCell hgm _).setCell hgm _).setCell hgm _) | exact HK4.out _ (hbr.trans (hbr5.out.mono hsr3)) | exact HK4.out _ (hbr.trans ((hbr5.out.trans (by go_grown)).mono hsr3)) | exact HK4.out _ (hbr.trans (hbr4.out.mono hsr3)) | exact HK4.out _ (hbr.trans ((hbr4.out.trans (by go_grown)).mono hsr3)) | exact HK4.out _ (hbr.trans (Below.mono (by go_grown) hsr3)) | fail)
            clear hK K
            try simp only [Act.put, List.setIfInBounds_toArray, List.set_cons_zero, List.set_cons_succ, List.getElem_toArray, List.getElem_cons_zero, List.getElem_cons_succ]
            refine wpAnyH_ready (rs := [11]) (by kernel_rfl) (by simp) ?_
            refine AllReadyH.cons (o := _) rfl (fun K hK => ?_) AllReadyH.nil
            go_simp
            refine hK.out _ _ ?_ (fun hHeld11 => ?_)
            · (first | go_keep | exact HK4.out _ ((((hbr.trans (hbr5.out.mono hsr3)).setCell hgm _).setCell hgm _).setCell hgm _) | exact HK4.out _ (hbr.trans (hbr5.out.mono hsr3)) | exact HK4.out _ (hbr.trans ((hbr5.out.trans (by go_grown)).mono hsr3)) | exact HK4.out _ (hbr.trans (hbr4.out.mono hsr3)) | exact HK4.out _ (hbr.trans ((hbr4.out.trans (by go_grown)).mono hsr3)) | exact HK4.out _ (hbr.trans (Below.mono (by go_grown) hsr3)) | fail)
            clear hK K
            try simp only [Act.put, List.setIfInBounds_toArray, List.set_cons_zero, List.set_cons_succ, List.getElem_toArray, List.getElem_cons_zero, List.getElem_cons_succ]
            refine wpAnyH_ready (rs := [12]) (by kernel_rfl) (by simp) ?_
            refine AllReadyH.cons (o := _) rfl (fun K hK => ?_) AllReadyH.nil
            (go_simp; (go_at_call 139; go_loud ((refine (oupdate_any T' XT XC key _ _ _ _ _ _ (HRT.out _ (by go_grown)) (HY2.out _ (hbr4.out.trans (by go_grown))).2.2.1 (HY2.out _ (hbr4.out.trans (by go_grown))).2.2.2 HKOK.out (by omega) (by omega) (by omega)).mono ?_); rw [HU1.out, HU2.out, HU3.out]; rintro e w5 ⟨xe5, xk5, xc5, rfl, hrd5, hsl5, hb⟩; have hbr5 : Hid (Below wr.heap.size wr w5) := hid (Below.trans (hbr4.out.trans (by go_grown)) (hb.mono (by first | omega | (simp; done) | (simp; omega)))); have hsr5 := hbr5.out.size; obtain ⟨Ar5, nr5, Br5, mr5, hv1, hv2⟩ := rda_shape hrd5; subst hv1; subst hv2; obtain ⟨Dr5, kr5, hv3⟩ := hsl5.shape; subst hv3; have HR5 := hid hrd5; have HL5 := hid hsl5; have HG5 := hid ((hbr5.out.block g hgr).trans HGr.out); obtain ⟨v0, v1, v2, v3, v4, v5, v6⟩ := HK2.out w5 hbr5.out; have z0 := cells_frz (i := 0) HG5.out; have z1 := cells_frz (i := 1) HG5.out; have z2 := cells_frz (i := 2) HG5.out; clear hrd5 hsl5 hb)); go_wp2_with fail)
            refine hK.out _ _ ?_ (fun hHeld12 => ?_)
            · (first | go_keep | exact HK4.out _ ((((hbr.trans (hbr5.out.mono hsr3)).setCell hgm _).setCell hgm _).setCell hgm _) | exact HK4.out _ (hbr.trans (hbr5.out.mono hsr3)) | exact HK4.out _ (hbr.trans ((hbr5.out.trans (by go_grown)).mono hsr3)) | exact HK4.out _ (hbr.trans (hbr4.out.mono hsr3)) | exact HK4.out _ (hbr.trans ((hbr4.out.trans (by go_grown)).mono hsr3)) | exact HK4.out _ (hbr.trans (Below.mono (by go_grown) hsr3)) | fail)
            clear hK K
            try simp only [Act.put, List.setIfInBounds_toArray, List.set_cons_zero, List.set_cons_succ, List.getElem_toArray, List.getElem_cons_zero, List.getElem_cons_succ]
            refine wpAnyH_take (i := 13) (oi := _) (v := ?v13) rfl (by kernel_rfl) (by kernel_rfl) (by kernel_rfl) (fun _ _ _ h => h) (Or.inl ⟨by rfl, ?h13⟩) (by assumption) ?_
            case h13 => (intro w hSw; (try dsimp only at hSw); go_simp; (try with_reducible rfl))
            simp only [Act.put, List.setIfInBounds_toArray, List.set_cons_zero, List.set_cons_succ, List.getElem_toArray, List.getElem_cons_zero, List.getElem_cons_succ]
            refine wpAnyH_take (i := 14) (oi := _) (v := ?v14) rfl (by kernel_rfl) (by kernel_rfl) (by kernel_rfl) (fun _ _ _ h => h) (Or.inl ⟨by rfl, ?h14⟩) (by assumption) ?_
            case h14 => (intro w hSw; (try dsimp only at hSw); go_simp; (try with_reducible rfl))
            simp only [Act.put, List.setIfInBounds_toArray, List.set_cons_zero, List.set_cons_succ, List.getElem_toArray, List.getElem_cons_zero, List.getElem_cons_succ]
            refine wpAnyH_take (i := 15) (oi := _) (v := ?v15) rfl (by kernel_rfl) (by kernel_rfl) (by kernel_rfl) (fun _ _ _ h => h) (Or.inl ⟨by rfl, ?h15⟩) (by assumption) ?_
            case h15 => (intro w hSw; (try dsimp only at hSw); go_simp; (try with_reducible rfl))
            simp only [Act.put, List.setIfInBounds_toArray, List.set_cons_zero, List.set_cons_succ, List.getElem_toArray, List.getElem_cons_zero, List.getElem_cons_succ]
            refine wpAnyH_ready (rs := [16]) (by kernel_rfl) (by simp) ?_
            refine AllReadyH.cons (o := _) rfl (fun K hK => ?_) AllReadyH.nil
            go_simp
            refine hK.out _ _ ?_ (fun hHeld16 => ?_)
            · (first | go_keep | exact HK4.out _ ((((hbr.trans (hbr5.out.mono hsr3)).setCell hgm _).setCell hgm _).setCell hgm _) | exact HK4.out _ (hbr.trans (hbr5.out.mono hsr3)) | exact HK4.out _ (hbr.trans ((hbr5.out.trans (by go_grown)).mono hsr3)) | exact HK4.out _ (hbr.trans (hbr4.out.mono hsr3)) | exact HK4.out _ (hbr.trans ((hbr4.out.trans (by go_grown)).mono hsr3)) | exact HK4.out _ (hbr.trans (Below.mono (by go_grown) hsr3)) | fail)
            clear hK K
            try simp only [Act.put, List.setIfInBounds_toArray, List.set_cons_zero, List.set_cons_succ, List.getElem_toArray, List.getElem_cons_zero, List.getElem_cons_succ]
            refine wpAnyH_take (i := 17) (oi := _) (v := ?v17) rfl (by kernel_rfl) (by kernel_rfl) (by kernel_rfl) (fun _ _ _ h => h) (Or.inl ⟨by rfl, ?h17⟩) (by assumption) ?_
            case h17 => (intro w hSw; (try dsimp only at hSw); go_simp; (try with_reducible rfl))
            simp only [Act.put, List.setIfInBounds_toArray, List.set_cons_zero, List.set_cons_succ, List.getElem_toArray, List.getElem_cons_zero, List.getElem_cons_succ]
            refine wpAnyH_done (by kernel_rfl) ?_ _
            go_wp2_with fail
            go_meet
            case rel => exact ⟨rfl, boxg_set HG5.out (hbr.trans (hbr5.out.mono (by omega))) hgm (by first | omega | (simp; omega)) HR5.out HL5.out⟩
          · go_simp
            refine hK.out _ _ ?_ (fun hHeld11 => ?_)
            · (first | go_keep | exact HK4.out _ ((((hbr.trans (hbr5.out.mono hsr3)).setCell hgm _).setCell hgm _).setCell hgm _) | exact HK4.out _ (hbr.trans (hbr5.out.mono hsr3)) | exact HK4.out _ (hbr.trans ((hbr5.out.trans (by go_grown)).mono hsr3)) | exact HK4.out _ (hbr.trans (hbr4.out.mono hsr3)) | exact HK4.out _ (hbr.trans ((hbr4.out.trans (by go_grown)).mono hsr3)) | exact HK4.out _ (hbr.trans (Below.mono (by go_grown) hsr3)) | fail)
            clear hK K
            try simp only [Act.put, List.setIfInBounds_toArray, List.set_cons_zero, List.set_cons_succ, List.getElem_toArray, List.getElem_cons_zero, List.getElem_cons_succ]
            refine wpAnyH_ready (rs := [5]) (by kernel_rfl) (by simp) ?_
            refine AllReadyH.cons (o := _) rfl (fun K hK => ?_) AllReadyH.nil
            (go_simp; (go_at_call 89; go_loud ((refine (tget_any t (path.take k) _ _ _ _ (HY2.out _ (by go_grown)).1 ((HY2.out _ (by go_grown)).2.1.takeK (by omega)) (by omega)).mono ?_); rw [HT'.out]; rintro e w4 ⟨xe4, xk4, rfl, hrd4, hb⟩; have hbr4 : Hid (Below wr.heap.size wr w4) := hid (Below.trans (by go_grown) (hb.mono (by first | omega | (simp; done) | (simp; omega)))); have hsr4 := hbr4.out.size; obtain ⟨Ar4, nr4, Br4, mr4, hv1, hv2⟩ := rda_shape hrd4; subst hv1; subst hv2; have HRT : Hid (∀ W, Below w4.heap.size w4 W → T'.rd W W.heap.size (.slice Ar4 T'.es.length nr4) (.slice Br4 T'.ks.length mr4)) := fun W hW => rda_rd hrd4 (fun b hb => hb.2) hW; obtain ⟨u0, u1, u2, u3, u4, u5, u6⟩ := HK2.out w4 hbr4.out; clear hb)); go_wp2_with fail)
            refine hK.out _ _ ?_ (fun hHeld5 => ?_)
            · (first | go_keep | exact HK4.out _ ((((hbr.trans (hbr5.out.mono hsr3)).setCell hgm _).setCell hgm _).setCell hgm _) | exact HK4.out _ (hbr.trans (hbr5.out.mono hsr3)) | exact HK4.out _ (hbr.trans ((hbr5.out.trans (by go_grown)).mono hsr3)) | exact HK4.out _ (hbr.trans (hbr4.out.mono hsr3)) | exact HK4.out _ (hbr.trans ((hbr4.out.trans (by go_grown)).mono hsr3)) | exact HK4.out _ (hbr.trans (Below.mono (by go_grown) hsr3)) | fail)
            clear hK K
            try simp only [Act.put, List.setIfInBounds_toArray, List.set_cons_zero, List.set_cons_succ, List.getElem_toArray, List.getElem_cons_zero, List.getElem_cons_succ]
            refine wpAnyH_ready (rs := [12]) (by kernel_rfl) (by simp) ?_
            refine AllReadyH.cons (o := _) rfl (fun K hK => ?_) AllReadyH.nil
            (go_simp; (go_at_call 139; go_loud ((refine (oupdate_any T' XT XC key _ _ _ _ _ _ (HRT.out _ (by go_grown)) (HY2.out _ (hbr4.out.trans (by go_grown))).2.2.1 (HY2.out _ (hbr4.out.trans (by go_grown))).2.2.2 HKOK.out (by omega) (by omega) (by omega)).mono ?_); rw [HU1.out, HU2.out, HU3.out]; rintro e w5 ⟨xe5, xk5, xc5, rfl, hrd5, hsl5, hb⟩; have hbr5 : Hid (Below wr.heap.size wr w5) := hid (Below.trans (hbr4.out.trans (by go_grown)) (hb.mono (by first | omega | (simp; done) | (simp; omega)))); have hsr5 := hbr5.out.size; obtain ⟨Ar5, nr5, Br5, mr5, hv1, hv2⟩ := rda_shape hrd5; subst hv1; subst hv2; obtain ⟨Dr5, kr5, hv3⟩ := hsl5.shape; subst hv3; have HR5 := hid hrd5; have HL5 := hid hsl5; have HG5 := hid ((hbr5.out.block g hgr).trans HGr.out); obtain ⟨v0, v1, v2, v3, v4, v5, v6⟩ := HK2.out w5 hbr5.out; have z0 := cells_frz (i := 0) HG5.out; have z1 := cells_frz (i := 1) HG5.out; have z2 := cells_frz (i := 2) HG5.out; clear hrd5 hsl5 hb)); go_wp2_with fail)
            refine hK.out _ _ ?_ (fun hHeld12 => ?_)
            · (first | go_keep | exact HK4.out _ ((((hbr.trans (hbr5.out.mono hsr3)).setCell hgm _).setCell hgm _).setCell hgm _) | exact HK4.out _ (hbr.trans (hbr5.out.mono hsr3)) | exact HK4.out _ (hbr.trans ((hbr5.out.trans (by go_grown)).mono hsr3)) | exact HK4.out _ (hbr.trans (hbr4.out.mono hsr3)) | exact HK4.out _ (hbr.trans ((hbr4.out.trans (by go_grown)).mono hsr3)) | exact HK4.out _ (hbr.trans (Below.mono (by go_grown) hsr3)) | fail)
            clear hK K
            try simp only [Act.put, List.setIfInBounds_toArray, List.set_cons_zero, List.set_cons_succ, List.getElem_toArray, List.getElem_cons_zero, List.getElem_cons_succ]
            refine wpAnyH_take (i := 13) (oi := _) (v := ?vb13) rfl (by kernel_rfl) (by kernel_rfl) (by kernel_rfl) (fun _ _ _ h => h) (Or.inl ⟨by rfl, ?hb13⟩) (by assumption) ?_
            case hb13 => (intro w hSw; (try dsimp only at hSw); go_simp; (try with_reducible rfl))
            simp only [Act.put, List.setIfInBounds_toArray, List.set_cons_zero, List.set_cons_succ, List.getElem_toArray, List.getElem_cons_zero, List.getElem_cons_succ]
            refine wpAnyH_take (i := 14) (oi := _) (v := ?vb14) rfl (by kernel_rfl) (by kernel_rfl) (by kernel_rfl) (fun _ _ _ h => h) (Or.inl ⟨by rfl, ?hb14⟩) (by assumption) ?_
            case hb14 => (intro w hSw; (try dsimp only at hSw); go_simp; (try with_reducible rfl))
            simp only [Act.put, List.setIfInBounds_toArray, List.set_cons_zero, List.set_cons_succ, List.getElem_toArray, List.getElem_cons_zero, List.getElem_cons_succ]
            refine wpAnyH_take (i := 15) (oi := _) (v := ?vb15) rfl (by kernel_rfl) (by kernel_rfl) (by kernel_rfl) (fun _ _ _ h => h) (Or.inl ⟨by rfl, ?hb15⟩) (by assumption) ?_
            case hb15 => (intro w hSw; (try dsimp only at hSw); go_simp; (try with_reducible rfl))
            simp only [Act.put, List.setIfInBounds_toArray, List.set_cons_zero, List.set_cons_succ, List.getElem_toArray, List.getElem_cons_zero, List.getElem_cons_succ]
            refine wpAnyH_ready (rs := [16]) (by kernel_rfl) (by simp) ?_
            refine AllReadyH.cons (o := _) rfl (fun K hK => ?_) AllReadyH.nil
            go_simp
            refine hK.out _ _ ?_ (fun hHeld16 => ?_)
            · (first | go_keep | exact HK4.out _ ((((hbr.trans (hbr5.out.mono hsr3)).setCell hgm _).setCell hgm _).setCell hgm _) | exact HK4.out _ (hbr.trans (hbr5.out.mono hsr3)) | exact HK4.out _ (hbr.trans ((hbr5.out.trans (by go_grown)).mono hsr3)) | exact HK4.out _ (hbr.trans (hbr4.out.mono hsr3)) | exact HK4.out _ (hbr.trans ((hbr4.out.trans (by go_grown)).mono hsr3)) | exact HK4.out _ (hbr.trans (Below.mono (by go_grown) hsr3)) | fail)
            clear hK K
            try simp only [Act.put, List.setIfInBounds_toArray, List.set_cons_zero, List.set_cons_succ, List.getElem_toArray, List.getElem_cons_zero, List.getElem_cons_succ]
            refine wpAnyH_take (i := 17) (oi := _) (v := ?vb17) rfl (by kernel_rfl) (by kernel_rfl) (by kernel_rfl) (fun _ _ _ h => h) (Or.inl ⟨by rfl, ?hb17⟩) (by assumption) ?_
            case hb17 => (intro w hSw; (try dsimp only at hSw); go_simp; (try with_reducible rfl))
            simp only [Act.put, List.setIfInBounds_toArray, List.set_cons_zero, List.set_cons_succ, List.getElem_toArray, List.getElem_cons_zero, List.getElem_cons_succ]
            refine wpAnyH_done (by kernel_rfl) ?_ _
            go_wp2_with fail
            go_meet
            case rel => exact ⟨rfl, boxg_set HG5.out (hbr.trans (hbr5.out.mono (by omega))) hgm (by first | omega | (simp; omega)) HR5.out HL5.out⟩
        case rest =>
          obtain ⟨rfl, g', hgg, _, xa', xb', xd', hG', hr', hs', hbz'⟩ := hcut
          simp only [Value.pointer.injEq, Option.some.injEq, Addr.mk.injEq] at hgg
          obtain ⟨rfl, _⟩ := hgg
          go_wp2_with fail
          go_roundw
          case rel => exact ⟨k, (UT, UC, UE), by omega, by go_num, rfl, HUP.out, by simp only; omega, by simp only; omega, ⟨_, _, _, hG', hr', hs'⟩, hbz'⟩
          case measure => first | (simp [intOf]; done) | (simp [intOf]; omega)
end Go.Proofs.YtlapdmgjfdelnaaGreat
