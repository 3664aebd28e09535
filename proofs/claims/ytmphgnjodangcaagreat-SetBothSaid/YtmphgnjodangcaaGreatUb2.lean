/- What the laws need, part 2: The law SetTurns answers true. No condition. The plain law of SetBoth. causal.JoinAll. Condition: not too big, all in all. -/
import Derived.Test.YtmphgnjodangcaaGreatUb1
namespace Go.Proofs.YtmphgnjodangcaaGreat
open Go.RowKit
set_option maxRecDepth 100000

set_option maxHeartbeats 4000000 in
theorem lawST_any (t : Tr) (s : ByteArray) (d : Dt) (w : World) (ve0 vk0 : Value) (h0 : t.rd w w.heap.size ve0 vk0) (h1 : s.size ≤ Big) (h2 : d.Ok) :
    Calls Tryz.prog 9 #[.agg #[ve0, vk0], .string s, .agg #[.int .i64 d.dc, .int .i64 d.n]] w fun e w' => e = .returned (.bool true) ∧ Below w.heap.size w w' := by
  have HC0 : Hid (∀ w', Below w.heap.size w w' → t.rd w' w'.heap.size ve0 vk0) := fun w' hb => rd_below hb hb.size _ _ _ h0
  obtain ⟨A0, n0, B0, m0, rfl, rfl⟩ := rd_shape h0
  clear h0
  have HX0 : Hid (∀ W, Below (w.heap.size + 2) ((w.alloc (.cells #[.slice A0 t.es.length n0, .slice B0 t.ks.length m0] 27)).alloc (.cells #[.int .i64 d.dc, .int .i64 d.n] 54)) W → (Below w.heap.size w W ∧ w.heap.size + 2 ≤ (W).heap.size ∧ t.rd W (W).heap.size (.slice A0 t.es.length n0) (.slice B0 t.ks.length m0) ∧ (W).cell? ⟨w.heap.size, 0, none⟩ = some (.slice A0 t.es.length n0) ∧ (W).cell? ⟨w.heap.size, 1, none⟩ = some (.slice B0 t.ks.length m0) ∧ (W).cell? ⟨(w.heap.size + 1), 0, none⟩ = some (.int .i64 d.dc) ∧ (W).cell? ⟨(w.heap.size + 1), 1, none⟩ = some (.int .i64 d.n))) := fun W hW => by
    have g0 : W.heap[w.heap.size]? = some (.cells #[.slice A0 t.es.length n0, .slice B0 t.ks.length m0] 27 (0, 0)) := (hW.block _ (by omega)).trans ((heap_old (by simp <;> omega)).trans (heap_new rfl))
    have g1 : W.heap[(w.heap.size + 1)]? = some (.cells #[.int .i64 d.dc, .int .i64 d.n] 54 (0, 0)) := (hW.block _ (by omega)).trans (heap_new (by simp))
    have hB : Below w.heap.size w W := (((Below.refl _ w).alloc (Nat.le_refl _) _).alloc (by simp <;> omega) _).trans (hW.mono (by omega))
    exact ⟨hB, by have := hW.size; simpa using this, HC0.out _ hB, cell_cells (i := 0) g0, cell_cells (i := 1) g0, cell_cells (i := 0) g1, cell_cells (i := 1) g1⟩
  have hnb1 : w.heap.size + 1 ≠ w.heap.size := by omega
  go_enter Tryz.func9, Tryz.ntmps9
  go_wp2_with fail
  obtain ⟨hB, hs, rt0, c00, c01, c20, c21⟩ := HX0.out _ (Below.refl _ _)
  refine (awake11_any _).mono ?_
  rintro e w1 ⟨rfl, hb⟩
  have hbk1 : Hid (Below (w.heap.size + 2) ((w.alloc (.cells #[.slice A0 t.es.length n0, .slice B0 t.ks.length m0] 27)).alloc (.cells #[.int .i64 d.dc, .int .i64 d.n] 54)) w1) := hid (hb.mono (by first | omega | (simp; done) | (simp; omega)))
  clear hb
  clear hB hs rt0 c00 c01 c20 c21
  obtain ⟨hB, hs, rt0, c00, c01, c20, c21⟩ := HX0.out _ hbk1.out
  go_wp2_with fail
  refine (small11_any t _ _ _ rt0).mono ?_
  rintro e w2 ⟨rfl, hb⟩
  have hbk2 : Hid (Below (w.heap.size + 2) ((w.alloc (.cells #[.slice A0 t.es.length n0, .slice B0 t.ks.length m0] 27)).alloc (.cells #[.int .i64 d.dc, .int .i64 d.n] 54)) w2) := hid (hbk1.out.trans (hb.mono (by first | omega | (simp; done) | (simp; omega))))
  clear hb
  clear hB hs rt0 c00 c01 c20 c21
  obtain ⟨hB, hs, rt0, c00, c01, c20, c21⟩ := HX0.out _ hbk2.out
  cases hs : smlB t 60
  · clear hs
    go_wp2_with fail
    refine (awake11_any _).mono ?_
    rintro e w3 ⟨rfl, hb⟩
    have hbk3 : Hid (Below (w.heap.size + 2) ((w.alloc (.cells #[.slice A0 t.es.length n0, .slice B0 t.ks.length m0] 27)).alloc (.cells #[.int .i64 d.dc, .int .i64 d.n] 54)) w3) := hid (hbk2.out.trans (hb.mono (by first | omega | (simp; done) | (simp; omega))))
    clear hb
    clear hB hs rt0 c00 c01 c20 c21
    obtain ⟨hB, hs, rt0, c00, c01, c20, c21⟩ := HX0.out _ hbk3.out
    go_wp2_with fail
    go_ret
    exact ⟨rfl, hB⟩
  have hsz : t.sz ≤ 60 := by have := sml_sz hs; omega
  clear hs
  go_wp2_with fail
  refine (may_any t s d _ _ _ rt0 (by omega)).mono ?_
  rintro e w3 ⟨rfl, hb⟩
  have hbk3 : Hid (Below (w.heap.size + 2) ((w.alloc (.cells #[.slice A0 t.es.length n0, .slice B0 t.ks.length m0] 27)).alloc (.cells #[.int .i64 d.dc, .int .i64 d.n] 54)) w3) := hid (hbk2.out.trans (hb.mono (by first | omega | (simp; done) | (simp; omega))))
  clear hb
  clear hB hs rt0 c00 c01 c20 c21
  obtain ⟨hB, hs, rt0, c00, c01, c20, c21⟩ := HX0.out _ hbk3.out
  cases hc : sckB t s d
  · clear hc
    go_wp2_with fail
    refine (awake11_any _).mono ?_
    rintro e w4 ⟨rfl, hb⟩
    have hbk4 : Hid (Below (w.heap.size + 2) ((w.alloc (.cells #[.slice A0 t.es.length n0, .slice B0 t.ks.length m0] 27)).alloc (.cells #[.int .i64 d.dc, .int .i64 d.n] 54)) w4) := hid (hbk3.out.trans (hb.mono (by first | omega | (simp; done) | (simp; omega))))
    clear hb
    clear hB hs rt0 c00 c01 c20 c21
    obtain ⟨hB, hs, rt0, c00, c01, c20, c21⟩ := HX0.out _ hbk4.out
    go_wp2_with fail
    go_ret
    exact ⟨rfl, hB⟩
  go_wp2_with fail
  refine (r08once_any t _ _ _ rt0 (by omega)).mono ?_
  rintro e w4 ⟨rfl, hb⟩
  have hbk4 : Hid (Below (w.heap.size + 2) ((w.alloc (.cells #[.slice A0 t.es.length n0, .slice B0 t.ks.length m0] 27)).alloc (.cells #[.int .i64 d.dc, .int .i64 d.n] 54)) w4) := hid (hbk3.out.trans (hb.mono (by first | omega | (simp; done) | (simp; omega))))
  clear hb
  clear hB hs rt0 c00 c01 c20 c21
  obtain ⟨hB, hs, rt0, c00, c01, c20, c21⟩ := HX0.out _ hbk4.out
  cases hon : onceL (t.lvs [])
  · clear hc hon
    go_wp2_with fail
    refine (awake11_any _).mono ?_
    rintro e w5 ⟨rfl, hb⟩
    have hbk5 : Hid (Below (w.heap.size + 2) ((w.alloc (.cells #[.slice A0 t.es.length n0, .slice B0 t.ks.length m0] 27)).alloc (.cells #[.int .i64 d.dc, .int .i64 d.n] 54)) w5) := hid (hbk4.out.trans (hb.mono (by first | omega | (simp; done) | (simp; omega))))
    clear hb
    clear hB hs rt0 c00 c01 c20 c21
    obtain ⟨hB, hs, rt0, c00, c01, c20, c21⟩ := HX0.out _ hbk5.out
    go_wp2_with fail
    go_ret
    exact ⟨rfl, hB⟩
  have hfi : decide ((24 : Int) ≤ (t.ks.length : Int)) = decide (24 ≤ t.ks.length) := by rw [Bool.eq_iff_iff]; simp; omega
  cases fl : decide (24 ≤ t.ks.length)
  · rw [fl] at hfi
    obtain ⟨X, Y, S, A, B, U, V, K, P, Q, HEN, HDI1, HCI1, HDI, HCI, HYN, HJE, HJT, HJC, HIE, HIT, HIC, HK, HPA, HPW, HQB, HQL, hX1, hY1, hA1, hB1, hS1, hK1, hKl, hPl, hQl, HN⟩ := st_plain hc hon (by simpa using fl) hsz
    clear hc hon
    go_wp2_with fail
    refine (sadd_any t s d _ _ _ rt0 h1 (by omega) h2).mono ?_
    rw [HEN.out, HDI1.out, HCI1.out]
    rintro e w5 ⟨xe5, xk5, xc5, rfl, hrd5, hsl5, hb⟩
    obtain ⟨A5x, n5x, B5x, m5x, rfl, rfl⟩ := rda_shape hrd5
    obtain ⟨D5x, k5x, rfl⟩ := hsl5.shape
    have hbk5 : Hid (Below (w.heap.size + 2) ((w.alloc (.cells #[.slice A0 t.es.length n0, .slice B0 t.ks.length m0] 27)).alloc (.cells #[.int .i64 d.dc, .int .i64 d.n] 54)) w5) := hid (hbk4.out.trans (hb.mono (by first | omega | (simp; done) | (simp; omega))))
    clear hb
    clear hB hs rt0 c00 c01 c20 c21
    obtain ⟨hB, hs, rt0, c00, c01, c20, c21⟩ := HX0.out _ hbk5.out
    have hlt5962 : w.heap.size < w5.heap.size := by omega
    have hne5962 : w.heap.size ≠ w5.heap.size := by omega
    have hnr5962 : w5.heap.size ≠ w.heap.size := by omega
    have hlt5931 : (w.heap.size + 1) < w5.heap.size := by omega
    have hne5931 : (w.heap.size + 1) ≠ w5.heap.size := by omega
    have hnr5931 : w5.heap.size ≠ (w.heap.size + 1) := by omega
    have HX1 : Hid (∀ W, Below (w5.heap.size + 1) (w5.alloc (.cells #[.slice A5x X.es.length n5x, .slice B5x X.ks.length m5x, .slice D5x S.length k5x] 31)) W → (w5.heap.size + 1 ≤ (W).heap.size ∧ X.rd W (W).heap.size (.slice A5x X.es.length n5x) (.slice B5x X.ks.length m5x) ∧ SlP W (W).heap.size 3 SpE (.slice D5x S.length k5x) S ∧ (W).cell? ⟨w5.heap.size, 0, none⟩ = some (.slice A5x X.es.length n5x) ∧ (W).cell? ⟨w5.heap.size, 1, none⟩ = some (.slice B5x X.ks.length m5x) ∧ (W).cell? ⟨w5.heap.size, 2, none⟩ = some (.slice D5x S.length k5x) ∧ Below w.heap.size w W ∧ w.heap.size + 2 ≤ (W).heap.size ∧ t.rd W (W).heap.size (.slice A0 t.es.length n0) (.slice B0 t.ks.length m0) ∧ (W).cell? ⟨w.heap.size, 0, none⟩ = some (.slice A0 t.es.length n0) ∧ (W).cell? ⟨w.heap.size, 1, none⟩ = some (.slice B0 t.ks.length m0) ∧ (W).cell? ⟨(w.heap.size + 1), 0, none⟩ = some (.int .i64 d.dc) ∧ (W).cell? ⟨(w.heap.size + 1), 1, none⟩ = some (.int .i64 d.n))) := fun W hW => by
      have g0 := (hW.block w5.heap.size (by omega)).trans (heap_new rfl)
      have hB : Below w5.heap.size w5 W := ((Below.refl _ w5).alloc (Nat.le_refl _) _).trans (hW.mono (by omega))
      exact ⟨by have := hW.size; simpa using this, rda_rd hrd5 (fun b hb => hb.2) hB, hsl5.slp (fun b hb => hb.2) hB, cell_cells (i := 0) g0, cell_cells (i := 1) g0, cell_cells (i := 2) g0, HX0.out W (hbk5.out.trans (hB.mono (by omega)))⟩
    clear hrd5 hsl5
    go_wp2_with fail
    clear hB hs rt0 c00 c01 c20 c21
    obtain ⟨hs_x, rt_x, rc_x, c0_x, c1_x, c2_x, hB, hs, rt0, c00, c01, c20, c21⟩ := HX1.out _ (Below.refl _ _)
    refine (sdel_any t s d _ _ _ rt0 h1 (by omega) h2).mono ?_
    rw [HDI.out, HCI.out, ← HYN.out]
    rintro e w6 ⟨xe6, xk6, xc6, rfl, hrd6, hsl6, hb⟩
    obtain ⟨A6x, n6x, B6x, m6x, rfl, rfl⟩ := rda_shape hrd6
    obtain ⟨D6x, k6x, rfl⟩ := hsl6.shape
    have hbk6 : Hid (Below (w5.heap.size + 1) (w5.alloc (.cells #[.slice A5x X.es.length n5x, .slice B5x X.ks.length m5x, .slice D5x S.length k5x] 31)) w6) := hid (hb.mono (by first | omega | (simp; done) | (simp; omega)))
    clear hb
    clear hs_x rt_x rc_x c0_x c1_x c2_x hB hs rt0 c00 c01 c20 c21
    obtain ⟨hs_x, rt_x, rc_x, c0_x, c1_x, c2_x, hB, hs, rt0, c00, c01, c20, c21⟩ := HX1.out _ hbk6.out
    have hlt6962 : w.heap.size < w6.heap.size := by omega
    have hne6962 : w.heap.size ≠ w6.heap.size := by omega
    have hnr6962 : w6.heap.size ≠ w.heap.size := by omega
    have hlt6931 : (w.heap.size + 1) < w6.heap.size := by omega
    have hne6931 : (w.heap.size + 1) ≠ w6.heap.size := by omega
    have hnr6931 : w6.heap.size ≠ (w.heap.size + 1) := by omega
    have hlt6500 : w5.heap.size < w6.heap.size := by omega
    have hne6500 : w5.heap.size ≠ w6.heap.size := by omega
    have hnr6500 : w6.heap.size ≠ w5.heap.size := by omega
    have HX2 : Hid (∀ W, Below (w6.heap.size + 1) (w6.alloc (.cells #[.slice A6x Y.es.length n6x, .slice B6x Y.ks.length m6x, .slice D6x S.length k6x] 31)) W → (w6.heap.size + 1 ≤ (W).heap.size ∧ Y.rd W (W).heap.size (.slice A6x Y.es.length n6x) (.slice B6x Y.ks.length m6x) ∧ SlP W (W).heap.size 3 SpE (.slice D6x S.length k6x) S ∧ (W).cell? ⟨w6.heap.size, 0, none⟩ = some (.slice A6x Y.es.length n6x) ∧ (W).cell? ⟨w6.heap.size, 1, none⟩ = some (.slice B6x Y.ks.length m6x) ∧ (W).cell? ⟨w6.heap.size, 2, none⟩ = some (.slice D6x S.length k6x) ∧ w5.heap.size + 1 ≤ (W).heap.size ∧ X.rd W (W).heap.size (.slice A5x X.es.length n5x) (.slice B5x X.ks.length m5x) ∧ SlP W (W).heap.size 3 SpE (.slice D5x S.length k5x) S ∧ (W).cell? ⟨w5.heap.size, 0, none⟩ = some (.slice A5x X.es.length n5x) ∧ (W).cell? ⟨w5.heap.size, 1, none⟩ = some (.slice B5x X.ks.length m5x) ∧ (W).cell? ⟨w5.heap.size, 2, none⟩ = some (.slice D5x S.length k5x) ∧ Below w.heap.size w W ∧ w.heap.size + 2 ≤ (W).heap.size ∧ t.rd W (W).heap.size (.slice A0 t.es.length n0) (.slice B0 t.ks.length m0) ∧ (W).cell? ⟨w.heap.size, 0, none⟩ = some (.slice A0 t.es.length n0) ∧ (W).cell? ⟨w.heap.size, 1, none⟩ = some (.slice B0 t.ks.length m0) ∧ (W).cell? ⟨(w.heap.size + 1), 0, none⟩ = some (.int .i64 d.dc) ∧ (W).cell? ⟨(w.heap.size + 1), 1, none⟩ = some (.int .i64 d.n))) := fun W hW => by
      have g0 := (hW.block w6.heap.size (by omega)).trans (heap_new rfl)
      have hB : Below w6.heap.size w6 W := ((Below.refl _ w6).alloc (Nat.le_refl _) _).trans (hW.mono (by omega))
      exact ⟨by have := hW.size; simpa using this, rda_rd hrd6 (fun b hb => hb.2) hB, hsl6.slp (fun b hb => hb.2) hB, cell_cells (i := 0) g0, cell_cells (i := 1) g0, cell_cells (i := 2) g0, HX1.out W (hbk6.out.trans (hB.mono (by omega)))⟩
    clear hrd6 hsl6
    clear hfi fl
    go_upto_region 5 with (fail)
    clear hs_x rt_x rc_x c0_x c1_x c2_x hB hs rt0 c00 c01 c20 c21
    obtain ⟨hs_y, rt_y, rc_y, c0_y, c1_y, c2_y, hs_x, rt_x, rc_x, c0_x, c1_x, c2_x, hB, hs, rt0, c00, c01, c20, c21⟩ := HX2.out _ (Below.refl _ _)
    have HK1 : Hid (∀ W, Below (w6.heap.size + 1) (w6.alloc (.cells #[.slice A6x Y.es.length n6x, .slice B6x Y.ks.length m6x, .slice D6x S.length k6x] 31)) W → ((W).cell? ⟨w5.heap.size, 0, none⟩ = some (.slice A5x X.es.length n5x) ∧ (W).cell? ⟨w5.heap.size, 1, none⟩ = some (.slice B5x X.ks.length m5x) ∧ (W).cell? ⟨w5.heap.size, 2, none⟩ = some (.slice D5x S.length k5x) ∧ (W).cell? ⟨w.heap.size, 0, none⟩ = some (.slice A0 t.es.length n0) ∧ (W).cell? ⟨w.heap.size, 1, none⟩ = some (.slice B0 t.ks.length m0))) := fun W hW => by
      obtain ⟨_, _, _, _, _, _, _, _, _, z_c0_x, z_c1_x, z_c2_x, _, _, _, z_c00, z_c01, _, _⟩ := HX2.out W hW
      exact ⟨z_c0_x, z_c1_x, z_c2_x, z_c00, z_c01⟩
    have Hrt_y_1 : Hid (∀ W, Below (w6.heap.size + 1) (w6.alloc (.cells #[.slice A6x Y.es.length n6x, .slice B6x Y.ks.length m6x, .slice D6x S.length k6x] 31)) W → Y.rd W (W).heap.size (.slice A6x Y.es.length n6x) (.slice B6x Y.ks.length m6x)) := fun W hW => by
      obtain ⟨_, z, _, _, _, _, _, _, _, _, _, _, _, _, _, _, _, _, _⟩ := HX2.out W hW
      exact z
    have Hrc_y_1 : Hid (∀ W, Below (w6.heap.size + 1) (w6.alloc (.cells #[.slice A6x Y.es.length n6x, .slice B6x Y.ks.length m6x, .slice D6x S.length k6x] 31)) W → SlP W (W).heap.size 3 SpE (.slice D6x S.length k6x) S) := fun W hW => by
      obtain ⟨_, _, z, _, _, _, _, _, _, _, _, _, _, _, _, _, _, _, _⟩ := HX2.out W hW
      exact z
    have Hrt_x_1 : Hid (∀ W, Below (w6.heap.size + 1) (w6.alloc (.cells #[.slice A6x Y.es.length n6x, .slice B6x Y.ks.length m6x, .slice D6x S.length k6x] 31)) W → X.rd W (W).heap.size (.slice A5x X.es.length n5x) (.slice B5x X.ks.length m5x)) := fun W hW => by
      obtain ⟨_, _, _, _, _, _, _, z, _, _, _, _, _, _, _, _, _, _, _⟩ := HX2.out W hW
      exact z
    have Hrc_x_1 : Hid (∀ W, Below (w6.heap.size + 1) (w6.alloc (.cells #[.slice A6x Y.es.length n6x, .slice B6x Y.ks.length m6x, .slice D6x S.length k6x] 31)) W → SlP W (W).heap.size 3 SpE (.slice D5x S.length k5x) S) := fun W hW => by
      obtain ⟨_, _, _, _, _, _, _, _, z, _, _, _, _, _, _, _, _, _, _⟩ := HX2.out W hW
      exact z
    have Hrt0_1 : Hid (∀ W, Below (w6.heap.size + 1) (w6.alloc (.cells #[.slice A6x Y.es.length n6x, .slice B6x Y.ks.length m6x, .slice D6x S.length k6x] 31)) W → t.rd W (W).heap.size (.slice A0 t.es.length n0) (.slice B0 t.ks.length m0)) := fun W hW => by
      obtain ⟨_, _, _, _, _, _, _, _, _, _, _, _, _, _, z, _, _, _, _⟩ := HX2.out W hW
      exact z
    have HS_1 : Hid (∀ W, Below (w6.heap.size + 1) (w6.alloc (.cells #[.slice A6x Y.es.length n6x, .slice B6x Y.ks.length m6x, .slice D6x S.length k6x] 31)) W → (w6.heap.size + 1) ≤ W.heap.size) := fun W hW => by
      have := hW.size
      first | omega | (simp at this; omega)
    have hsb1 := HS_1.out _ (Below.refl _ _)
    clear rt_y rc_y c0_y c1_y c2_y rt_x rc_x hB rt0 c20 c21
    go_cut [11, 12] (fun s11 s12 wx => s12 = .int .i64 0 ∧ Box3 (w6.heap.size + 1) (w6.alloc (.cells #[.slice A6x Y.es.length n6x, .slice B6x Y.ks.length m6x, .slice D6x S.length k6x] 31)) 31 A U s11 wx)
    case first =>
      go_region_held3 (fun W => (W).cell? ⟨w5.heap.size, 0, none⟩ = some (.slice A5x X.es.length n5x) ∧ (W).cell? ⟨w5.heap.size, 1, none⟩ = some (.slice B5x X.ks.length m5x) ∧ (W).cell? ⟨w5.heap.size, 2, none⟩ = some (.slice D5x S.length k5x) ∧ (W).cell? ⟨w.heap.size, 0, none⟩ = some (.slice A0 t.es.length n0) ∧ (W).cell? ⟨w.heap.size, 1, none⟩ = some (.slice B0 t.ks.length m0))
        (first | go_keep | exact HK1.out _ hbr8.out | exact HK1.out _ (hbr8.out.trans (by go_grown)) | exact HK1.out _ hbr7.out | exact HK1.out _ (hbr7.out.trans (by go_grown)) | exact HK1.out _ (((hbr8.out.setCell (by first | (simp; done) | (simp; omega)) _).setCell (by first | (simp; done) | (simp; omega)) _).setCell (by first | (simp; done) | (simp; omega)) _) | exact HK1.out _ (by go_grown) | fail)
        (first
          | (go_at_call 45; go_loud ((refine (cJoin_any (knC t) S t X _ _ _ _ _ _ _ (Hrt0_1.out _ (hbr7.out.trans (by go_grown))) (Hrt_x_1.out _ (hbr7.out.trans (by go_grown))) (HS7.out.slp (fun b hb => hb.2) (by go_grown)) (Hrc_x_1.out _ (hbr7.out.trans (by go_grown))) (by omega) (by omega) (by omega) (by omega)).mono ?_); rw [HJE.out, HJT.out, HJC.out]; rintro e w8 ⟨xe8, xk8, xc8, rfl, hrd8, hsl8, hb⟩; have hbr8 : Hid (Below (w6.heap.size + 1) (w6.alloc (.cells #[.slice A6x Y.es.length n6x, .slice B6x Y.ks.length m6x, .slice D6x S.length k6x] 31)) w8) := hid (Below.trans (hbr7.out.trans (by go_grown)) (hb.mono (by first | omega | (simp; done) | (simp; omega)))); have hsr8 := HS_1.out _ hbr8.out; have hch7_8 : Hid (Below w7.heap.size w7 w8) := hid (Below.trans (by go_grown) (hb.mono (by first | omega | (simp; done) | (simp; omega)))); obtain ⟨Ar8, nr8, Br8, mr8, hv1, hv2⟩ := rda_shape hrd8; subst hv1; subst hv2; obtain ⟨Dr8, kr8, hv3⟩ := hsl8.shape; subst hv3; have HR8 := hid hrd8; have HL8 := hid hsl8; clear hrd8 hsl8; (first | (have HG8 : Hid (w8.heap[w7.heap.size]? = some (.cells #[.slice none 0 0, .slice none 0 0, .slice none 0 0] 31 (0, 0))) := hid (z_new hb); have k0 : w8.cell? ⟨w7.heap.size, 0, none⟩ = some (.slice none 0 0) := cell_cells (i := 0) HG8.out; have k1 : w8.cell? ⟨w7.heap.size, 1, none⟩ = some (.slice none 0 0) := cell_cells (i := 1) HG8.out; have k2 : w8.cell? ⟨w7.heap.size, 2, none⟩ = some (.slice none 0 0) := cell_cells (i := 2) HG8.out; have z0 := cells_frz (i := 0) HG8.out; have z1 := cells_frz (i := 1) HG8.out; have z2 := cells_frz (i := 2) HG8.out; have hna0 : w.heap.size ≠ w7.heap.size := (by omega); have hnb0 : w7.heap.size ≠ w.heap.size := (by omega); have hna1 : (w.heap.size + 1) ≠ w7.heap.size := (by omega); have hnb1 : w7.heap.size ≠ (w.heap.size + 1) := (by omega); have hna2 : w5.heap.size ≠ w7.heap.size := (by omega); have hnb2 : w7.heap.size ≠ w5.heap.size := (by omega); have hna3 : w6.heap.size ≠ w7.heap.size := (by omega); have hnb3 : w7.heap.size ≠ w6.heap.size := (by omega)) | (have HG8 : Hid (w8.heap[(w6.heap.size + 1)]? = some (.cells #[.slice none 0 0, .slice none 0 0, .slice none 0 0] 31 (0, 0))) := hid ((hb.block _ (lt_of_block HGA.out)).trans HGA.out); have k0 : w8.cell? ⟨(w6.heap.size + 1), 0, none⟩ = some (.slice none 0 0) := cell_cells (i := 0) HG8.out; have k1 : w8.cell? ⟨(w6.heap.size + 1), 1, none⟩ = some (.slice none 0 0) := cell_cells (i := 1) HG8.out; have k2 : w8.cell? ⟨(w6.heap.size + 1), 2, none⟩ = some (.slice none 0 0) := cell_cells (i := 2) HG8.out; have z0 := cells_frz (i := 0) HG8.out; have z1 := cells_frz (i := 1) HG8.out; have z2 := cells_frz (i := 2) HG8.out; have hna0 : w.heap.size ≠ (w6.heap.size + 1) := (by omega); have hnb0 : (w6.heap.size + 1) ≠ w.heap.size := (by omega); have hna1 : (w.heap.size + 1) ≠ (w6.heap.size + 1) := (by omega); have hnb1 : (w6.heap.size + 1) ≠ (w.heap.size + 1) := (by omega); have hna2 : w5.heap.size ≠ (w6.heap.size + 1) := (by omega); have hnb2 : (w6.heap.size + 1) ≠ w5.heap.size := (by omega); have hna3 : w6.heap.size ≠ (w6.heap.size + 1) := (by omega); have hnb3 : (w6.heap.size + 1) ≠ w6.heap.size := (by omega)) | skip); clear hb))
          | (go_at_call 41; go_loud ((refine (r10known_any t _ _ _ (Hrt0_1.out _ (by go_grown)) (by omega) HN.out).mono ?_); rintro e w7 ⟨vc7, rfl, hsl7, hb⟩; have hbr7 : Hid (Below (w6.heap.size + 1) (w6.alloc (.cells #[.slice A6x Y.es.length n6x, .slice B6x Y.ks.length m6x, .slice D6x S.length k6x] 31)) w7) := hid (Below.trans (by go_grown) (hb.mono (by first | omega | (simp; done) | (simp; omega)))); have hsr7 := HS_1.out _ hbr7.out; obtain ⟨Dk7, kk7, hv7⟩ := hsl7.shape; subst hv7; have HS7 := hid hsl7; clear hsl7; (first | (have HGA : Hid (w7.heap[(w6.heap.size + 1)]? = some (.cells #[.slice none 0 0, .slice none 0 0, .slice none 0 0] 31 (0, 0))) := hid (z_new2D hb)) | (have HGA : Hid (w7.heap[(w6.heap.size + 1)]? = some (.cells #[.slice none 0 0, .slice none 0 0, .slice none 0 0] 31 (0, 0))) := hid (z_newD hb)) | (have HGA : Hid (w7.heap[(w6.heap.size + 1)]? = some (.cells #[.slice none 0 0, .slice none 0 0, .slice none 0 0] 31 (0, 0))) := hid (z_new2 hb)) | (have HGA : Hid (w7.heap[(w6.heap.size + 1)]? = some (.cells #[.slice none 0 0, .slice none 0 0, .slice none 0 0] 31 (0, 0))) := hid (z_new hb)) | skip); clear hb)))
      all_goals
        go_wp2_with fail
        go_meet
        case rel => exact ⟨rfl, (by first | exact box_new hbr8.out (HS_1.out _ hbr8.out) HR8.out HL8.out | exact box_set HG8.out hbr8.out (by omega) (by first | (simp; done) | (simp; omega) | exact lt_of_block HGA.out | (have := lt_of_block HGA.out; simp; omega)) HR8.out HL8.out)⟩
    case rest =>
      obtain ⟨rfl, g9, xe9, xk9, xc9, rfl, hG9, hrd9, hsl9, hbz⟩ := hcut
      obtain ⟨A9x, n9x, B9x, m9x, rfl, rfl⟩ := rd_shape hrd9
      obtain ⟨D9x, k9x, rfl, _⟩ := id hsl9
      have hlg9 := lt_of_block hG9
      obtain ⟨wq9, hwq9⟩ : ∃ z : World, z = wc := ⟨wc, rfl⟩
      subst hwq9
      have HSZ9 : Hid ((w6.heap.size + 1) ≤ wq9.heap.size) := HS_1.out _ hbz
      have HX3 : Hid (∀ W, Below wq9.heap.size wq9 W → (wq9.heap.size ≤ (W).heap.size ∧ A.rd W (W).heap.size (.slice A9x A.es.length n9x) (.slice B9x A.ks.length m9x) ∧ SlP W (W).heap.size 3 SpE (.slice D9x U.length k9x) U ∧ (W).cell? ⟨g9, 0, none⟩ = some (.slice A9x A.es.length n9x) ∧ (W).cell? ⟨g9, 1, none⟩ = some (.slice B9x A.ks.length m9x) ∧ (W).cell? ⟨g9, 2, none⟩ = some (.slice D9x U.length k9x) ∧ w6.heap.size + 1 ≤ (W).heap.size ∧ Y.rd W (W).heap.size (.slice A6x Y.es.length n6x) (.slice B6x Y.ks.length m6x) ∧ SlP W (W).heap.size 3 SpE (.slice D6x S.length k6x) S ∧ (W).cell? ⟨w6.heap.size, 0, none⟩ = some (.slice A6x Y.es.length n6x) ∧ (W).cell? ⟨w6.heap.size, 1, none⟩ = some (.slice B6x Y.ks.length m6x) ∧ (W).cell? ⟨w6.heap.size, 2, none⟩ = some (.slice D6x S.length k6x) ∧ w5.heap.size + 1 ≤ (W).heap.size ∧ X.rd W (W).heap.size (.slice A5x X.es.length n5x) (.slice B5x X.ks.length m5x) ∧ SlP W (W).heap.size 3 SpE (.slice D5x S.length k5x) S ∧ (W).cell? ⟨w5.heap.size, 0, none⟩ = some (.slice A5x X.es.length n5x) ∧ (W).cell? ⟨w5.heap.size, 1, none⟩ = some (.slice B5x X.ks.length m5x) ∧ (W).cell? ⟨w5.heap.size, 2, none⟩ = some (.slice D5x S.length k5x) ∧ Below w.heap.size w W ∧ w.heap.size + 2 ≤ (W).heap.size ∧ t.rd W (W).heap.size (.slice A0 t.es.length n0) (.slice B0 t.ks.length m0) ∧ (W).cell? ⟨w.heap.size, 0, none⟩ = some (.slice A0 t.es.length n0) ∧ (W).cell? ⟨w.heap.size, 1, none⟩ = some (.slice B0 t.ks.length m0) ∧ (W).cell? ⟨(w.heap.size + 1), 0, none⟩ = some (.int .i64 d.dc) ∧ (W).cell? ⟨(w.heap.size + 1), 1, none⟩ = some (.int .i64 d.n))) := fun W hW => by
        have g0 := (hW.block g9 hlg9).trans hG9
        exact ⟨hW.size, rd_below hW hW.size _ _ _ hrd9, hsl9.imp hW hW.size (fun _ _ _ h => h), cell_cells (i := 0) g0, cell_cells (i := 1) g0, cell_cells (i := 2) g0, HX2.out W (hbz.trans (hW.mono HSZ9.out))⟩
      clear hrd9 hsl9 hG9
      clear hs_y hs_x c0_x c1_x c2_x hs c00 c01
      obtain ⟨hs_a, rt_a, rc_a, c0_a, c1_a, c2_a, hs_y, rt_y, rc_y, c0_y, c1_y, c2_y, hs_x, rt_x, rc_x, c0_x, c1_x, c2_x, hB, hs, rt0, c00, c01, c20, c21⟩ := HX3.out _ (Below.refl _ _)
      go_upto_region 6 with (fail)
      have HK2 : Hid (∀ W, Below wq9.heap.size wq9 W → ((W).cell? ⟨w6.heap.size, 0, none⟩ = some (.slice A6x Y.es.length n6x) ∧ (W).cell? ⟨w6.heap.size, 1, none⟩ = some (.slice B6x Y.ks.length m6x) ∧ (W).cell? ⟨w6.heap.size, 2, none⟩ = some (.slice D6x S.length k6x) ∧ (W).cell? ⟨w.heap.size, 0, none⟩ = some (.slice A0 t.es.length n0) ∧ (W).cell? ⟨w.heap.size, 1, none⟩ = some (.slice B0 t.ks.length m0))) := fun W hW => by
        obtain ⟨_, _, _, _, _, _, _, _, _, z_c0_y, z_c1_y, z_c2_y, _, _, _, _, _, _, _, _, _, z_c00, z_c01, _, _⟩ := HX3.out W hW
        exact ⟨z_c0_y, z_c1_y, z_c2_y, z_c00, z_c01⟩
      have Hrt_a_2 : Hid (∀ W, Below wq9.heap.size wq9 W → A.rd W (W).heap.size (.slice A9x A.es.length n9x) (.slice B9x A.ks.length m9x)) := fun W hW => by
        obtain ⟨_, z, _, _, _, _, _, _, _, _, _, _, _, _, _, _, _, _, _, _, _, _, _, _, _⟩ := HX3.out W hW
        exact z
      have Hrc_a_2 : Hid (∀ W, Below wq9.heap.size wq9 W → SlP W (W).heap.size 3 SpE (.slice D9x U.length k9x) U) := fun W hW => by
        obtain ⟨_, _, z, _, _, _, _, _, _, _, _, _, _, _, _, _, _, _, _, _, _, _, _, _, _⟩ := HX3.out W hW
        exact z
      have Hrt_y_2 : Hid (∀ W, Below wq9.heap.size wq9 W → Y.rd W (W).heap.size (.slice A6x Y.es.length n6x) (.slice B6x Y.ks.length m6x)) := fun W hW => by
        obtain ⟨_, _, _, _, _, _, _, z, _, _, _, _, _, _, _, _, _, _, _, _, _, _, _, _, _⟩ := HX3.out W hW
        exact z
      have Hrc_y_2 : Hid (∀ W, Below wq9.heap.size wq9 W → SlP W (W).heap.size 3 SpE (.slice D6x S.length k6x) S) := fun W hW => by
        obtain ⟨_, _, _, _, _, _, _, _, z, _, _, _, _, _, _, _, _, _, _, _, _, _, _, _, _⟩ := HX3.out W hW
        exact z
      have Hrt_x_2 : Hid (∀ W, Below wq9.heap.size wq9 W → X.rd W (W).heap.size (.slice A5x X.es.length n5x) (.slice B5x X.ks.length m5x)) := fun W hW => by
        obtain ⟨_, _, _, _, _, _, _, _, _, _, _, _, _, z, _, _, _, _, _, _, _, _, _, _, _⟩ := HX3.out W hW
        exact z
      have Hrc_x_2 : Hid (∀ W, Below wq9.heap.size wq9 W → SlP W (W).heap.size 3 SpE (.slice D5x S.length k5x) S) := fun W hW => by
        obtain ⟨_, _, _, _, _, _, _, _, _, _, _, _, _, _, z, _, _, _, _, _, _, _, _, _, _⟩ := HX3.out W hW
        exact z
      have Hrt0_2 : Hid (∀ W, Below wq9.heap.size wq9 W → t.rd W (W).heap.size (.slice A0 t.es.length n0) (.slice B0 t.ks.length m0)) := fun W hW => by
        obtain ⟨_, _, _, _, _, _, _, _, _, _, _, _, _, _, _, _, _, _, _, _, z, _, _, _, _⟩ := HX3.out W hW
        exact z
      have HS_2 : Hid (∀ W, Below wq9.heap.size wq9 W → wq9.heap.size ≤ W.heap.size) := fun W hW => by
        have := hW.size
        first | omega | (simp at this; omega)
      have hsb2 := HS_2.out _ (Below.refl _ _)
      clear rt_a rc_a c0_a c1_a c2_a rt_y rc_y rt_x rc_x c0_x c1_x c2_x hB rt0 c20 c21
      go_cut [13, 14] (fun s13 s14 wx => s14 = .int .i64 0 ∧ Box3 wq9.heap.size wq9 31 B V s13 wx)
      case first =>
        go_region_held3 (fun W => (W).cell? ⟨w6.heap.size, 0, none⟩ = some (.slice A6x Y.es.length n6x) ∧ (W).cell? ⟨w6.heap.size, 1, none⟩ = some (.slice B6x Y.ks.length m6x) ∧ (W).cell? ⟨w6.heap.size, 2, none⟩ = some (.slice D6x S.length k6x) ∧ (W).cell? ⟨w.heap.size, 0, none⟩ = some (.slice A0 t.es.length n0) ∧ (W).cell? ⟨w.heap.size, 1, none⟩ = some (.slice B0 t.ks.length m0))
          (first | go_keep | exact HK2.out _ hbr11.out | exact HK2.out _ (hbr11.out.trans (by go_grown)) | exact HK2.out _ hbr10.out | exact HK2.out _ (hbr10.out.trans (by go_grown)) | exact HK2.out _ (((hbr11.out.setCell (by first | (simp; done) | (simp; omega)) _).setCell (by first | (simp; done) | (simp; omega)) _).setCell (by first | (simp; done) | (simp; omega)) _) | exact HK2.out _ (by go_grown) | fail)
          (first
            | (go_at_call 45; go_loud ((refine (cJoin_any (knC t) S t Y _ _ _ _ _ _ _ (Hrt0_2.out _ (hbr10.out.trans (by go_grown))) (Hrt_y_2.out _ (hbr10.out.trans (by go_grown))) (HS10.out.slp (fun b hb => hb.2) (by go_grown)) (Hrc_y_2.out _ (hbr10.out.trans (by go_grown))) (by omega) (by omega) (by omega) (by omega)).mono ?_); rw [HIE.out, HIT.out, HIC.out]; rintro e w11 ⟨xe11, xk11, xc11, rfl, hrd11, hsl11, hb⟩; have hbr11 : Hid (Below wq9.heap.size wq9 w11) := hid (Below.trans (hbr10.out.trans (by go_grown)) (hb.mono (by first | omega | (simp; done) | (simp; omega)))); have hsr11 := HS_2.out _ hbr11.out; have hch10_11 : Hid (Below w10.heap.size w10 w11) := hid (Below.trans (by go_grown) (hb.mono (by first | omega | (simp; done) | (simp; omega)))); obtain ⟨Ar11, nr11, Br11, mr11, hv1, hv2⟩ := rda_shape hrd11; subst hv1; subst hv2; obtain ⟨Dr11, kr11, hv3⟩ := hsl11.shape; subst hv3; have HR11 := hid hrd11; have HL11 := hid hsl11; clear hrd11 hsl11; (first | (have HG11 : Hid (w11.heap[w10.heap.size]? = some (.cells #[.slice none 0 0, .slice none 0 0, .slice none 0 0] 31 (0, 0))) := hid (z_new hb); have k0 : w11.cell? ⟨w10.heap.size, 0, none⟩ = some (.slice none 0 0) := cell_cells (i := 0) HG11.out; have k1 : w11.cell? ⟨w10.heap.size, 1, none⟩ = some (.slice none 0 0) := cell_cells (i := 1) HG11.out; have k2 : w11.cell? ⟨w10.heap.size, 2, none⟩ = some (.slice none 0 0) := cell_cells (i := 2) HG11.out; have z0 := cells_frz (i := 0) HG11.out; have z1 := cells_frz (i := 1) HG11.out; have z2 := cells_frz (i := 2) HG11.out; have hna0 : w.heap.size ≠ w10.heap.size := (by omega); have hnb0 : w10.heap.size ≠ w.heap.size := (by omega); have hna1 : (w.heap.size + 1) ≠ w10.heap.size := (by omega); have hnb1 : w10.heap.size ≠ (w.heap.size + 1) := (by omega); have hna2 : w5.heap.size ≠ w10.heap.size := (by omega); have hnb2 : w10.heap.size ≠ w5.heap.size := (by omega); have hna3 : w6.heap.size ≠ w10.heap.size := (by omega); have hnb3 : w10.heap.size ≠ w6.heap.size := (by omega); have hna4 : g9 ≠ w10.heap.size := (by omega); have hnb4 : w10.heap.size ≠ g9 := (by omega)) | (have HG11 : Hid (w11.heap[wq9.heap.size]? = some (.cells #[.slice none 0 0, .slice none 0 0, .slice none 0 0] 31 (0, 0))) := hid ((hb.block _ (lt_of_block HGA.out)).trans HGA.out); have k0 : w11.cell? ⟨wq9.heap.size, 0, none⟩ = some (.slice none 0 0) := cell_cells (i := 0) HG11.out; have k1 : w11.cell? ⟨wq9.heap.size, 1, none⟩ = some (.slice none 0 0) := cell_cells (i := 1) HG11.out; have k2 : w11.cell? ⟨wq9.heap.size, 2, none⟩ = some (.slice none 0 0) := cell_cells (i := 2) HG11.out; have z0 := cells_frz (i := 0) HG11.out; have z1 := cells_frz (i := 1) HG11.out; have z2 := cells_frz (i := 2) HG11.out; have hna0 : w.heap.size ≠ wq9.heap.size := (by omega); have hnb0 : wq9.heap.size ≠ w.heap.size := (by omega); have hna1 : (w.heap.size + 1) ≠ wq9.heap.size := (by omega); have hnb1 : wq9.heap.size ≠ (w.heap.size + 1) := (by omega); have hna2 : w5.heap.size ≠ wq9.heap.size := (by omega); have hnb2 : wq9.heap.size ≠ w5.heap.size := (by omega); have hna3 : w6.heap.size ≠ wq9.heap.size := (by omega); have hnb3 : wq9.heap.size ≠ w6.heap.size := (by omega); have hna4 : g9 ≠ wq9.heap.size := (by omega); have hnb4 : wq9.heap.size ≠ g9 := (by omega)) | skip); clear hb))
            | (go_at_call 41; go_loud ((refine (r10known_any t _ _ _ (Hrt0_2.out _ (by go_grown)) (by omega) HN.out).mono ?_); rintro e w10 ⟨vc10, rfl, hsl10, hb⟩; have hbr10 : Hid (Below wq9.heap.size wq9 w10) := hid (Below.trans (by go_grown) (hb.mono (by first | omega | (simp; done) | (simp; omega)))); have hsr10 := HS_2.out _ hbr10.out; obtain ⟨Dk10, kk10, hv10⟩ := hsl10.shape; subst hv10; have HS10 := hid hsl10; clear hsl10; (first | (have HGA : Hid (w10.heap[wq9.heap.size]? = some (.cells #[.slice none 0 0, .slice none 0 0, .slice none 0 0] 31 (0, 0))) := hid (z_new2D hb)) | (have HGA : Hid (w10.heap[wq9.heap.size]? = some (.cells #[.slice none 0 0, .slice none 0 0, .slice none 0 0] 31 (0, 0))) := hid (z_newD hb)) | (have HGA : Hid (w10.heap[wq9.heap.size]? = some (.cells #[.slice none 0 0, .slice none 0 0, .slice none 0 0] 31 (0, 0))) := hid (z_new2 hb)) | (have HGA : Hid (w10.heap[wq9.heap.size]? = some (.cells #[.slice none 0 0, .slice none 0 0, .slice none 0 0] 31 (0, 0))) := hid (z_new hb)) | skip); clear hb)))
        all_goals
          go_wp2_with fail
          go_meet
          case rel => exact ⟨rfl, (by first | exact box_new hbr11.out (HS_2.out _ hbr11.out) HR11.out HL11.out | exact box_set HG11.out hbr11.out (by omega) (by first | (simp; done) | (simp; omega) | exact lt_of_block HGA.out | (have := lt_of_block HGA.out; simp; omega)) HR11.out HL11.out)⟩
      case rest =>
        obtain ⟨rfl, g12, xe12, xk12, xc12, rfl, hG12, hrd12, hsl12, hbz⟩ := hcut
        obtain ⟨A12x, n12x, B12x, m12x, rfl, rfl⟩ := rd_shape hrd12
        obtain ⟨D12x, k12x, rfl, _⟩ := id hsl12
        have hlg12 := lt_of_block hG12
        obtain ⟨wq12, hwq12⟩ : ∃ z : World, z = wc := ⟨wc, rfl⟩
        subst hwq12
        have HSZ12 : Hid (wq9.heap.size ≤ wq12.heap.size) := HS_2.out _ hbz
        have HX4 : Hid (∀ W, Below wq12.heap.size wq12 W → (wq12.heap.size ≤ (W).heap.size ∧ B.rd W (W).heap.size (.slice A12x B.es.length n12x) (.slice B12x B.ks.length m12x) ∧ SlP W (W).heap.size 3 SpE (.slice D12x V.length k12x) V ∧ (W).cell? ⟨g12, 0, none⟩ = some (.slice A12x B.es.length n12x) ∧ (W).cell? ⟨g12, 1, none⟩ = some (.slice B12x B.ks.length m12x) ∧ (W).cell? ⟨g12, 2, none⟩ = some (.slice D12x V.length k12x) ∧ wq9.heap.size ≤ (W).heap.size ∧ A.rd W (W).heap.size (.slice A9x A.es.length n9x) (.slice B9x A.ks.length m9x) ∧ SlP W (W).heap.size 3 SpE (.slice D9x U.length k9x) U ∧ (W).cell? ⟨g9, 0, none⟩ = some (.slice A9x A.es.length n9x) ∧ (W).cell? ⟨g9, 1, none⟩ = some (.slice B9x A.ks.length m9x) ∧ (W).cell? ⟨g9, 2, none⟩ = some (.slice D9x U.length k9x) ∧ w6.heap.size + 1 ≤ (W).heap.size ∧ Y.rd W (W).heap.size (.slice A6x Y.es.length n6x) (.slice B6x Y.ks.length m6x) ∧ SlP W (W).heap.size 3 SpE (.slice D6x S.length k6x) S ∧ (W).cell? ⟨w6.heap.size, 0, none⟩ = some (.slice A6x Y.es.length n6x) ∧ (W).cell? ⟨w6.heap.size, 1, none⟩ = some (.slice B6x Y.ks.length m6x) ∧ (W).cell? ⟨w6.heap.size, 2, none⟩ = some (.slice D6x S.length k6x) ∧ w5.heap.size + 1 ≤ (W).heap.size ∧ X.rd W (W).heap.size (.slice A5x X.es.length n5x) (.slice B5x X.ks.length m5x) ∧ SlP W (W).heap.size 3 SpE (.slice D5x S.length k5x) S ∧ (W).cell? ⟨w5.heap.size, 0, none⟩ = some (.slice A5x X.es.length n5x) ∧ (W).cell? ⟨w5.heap.size, 1, none⟩ = some (.slice B5x X.ks.length m5x) ∧ (W).cell? ⟨w5.heap.size, 2, none⟩ = some (.slice D5x S.length k5x) ∧ Below w.heap.size w W ∧ w.heap.size + 2 ≤ (W).heap.size ∧ t.rd W (W).heap.size (.slice A0 t.es.length n0) (.slice B0 t.ks.length m0) ∧ (W).cell? ⟨w.heap.size, 0, none⟩ = some (.slice A0 t.es.length n0) ∧ (W).cell? ⟨w.heap.size, 1, none⟩ = some (.slice B0 t.ks.length m0) ∧ (W).cell? ⟨(w.heap.size + 1), 0, none⟩ = some (.int .i64 d.dc) ∧ (W).cell? ⟨(w.heap.size + 1), 1, none⟩ = some (.int .i64 d.n))) := fun W hW => by
          have g0 := (hW.block g12 hlg12).trans hG12
          exact ⟨hW.size, rd_below hW hW.size _ _ _ hrd12, hsl12.imp hW hW.size (fun _ _ _ h => h), cell_cells (i := 0) g0, cell_cells (i := 1) g0, cell_cells (i := 2) g0, HX3.out W (hbz.trans (hW.mono HSZ12.out))⟩
        clear hrd12 hsl12 hG12
        clear hs_a hs_y c0_y c1_y c2_y hs_x hs c00 c01
        obtain ⟨hs_b, rt_b, rc_b, c0_b, c1_b, c2_b, hs_a, rt_a, rc_a, c0_a, c1_a, c2_a, hs_y, rt_y, rc_y, c0_y, c1_y, c2_y, hs_x, rt_x, rc_x, c0_x, c1_x, c2_x, hB, hs, rt0, c00, c01, c20, c21⟩ := HX4.out _ (Below.refl _ _)
        go_wp2_with fail
        refine (r10elems_any t _ _ _ rt0 (by have := ks_sz t; omega)).mono ?_
        rw [HK.out]
        rintro e w13 ⟨v13, rfl, ho13, hb⟩
        obtain ⟨A13s, c13s, hv13⟩ := ho13.shape
        subst hv13
        have HS13s := hid (ho13.sl (by unfold Big; first | omega | (simp; omega)))
        clear ho13
        have hbk13 : Hid (Below wq12.heap.size wq12 w13) := hid (hb.mono (by first | omega | (simp; done) | (simp; omega)))
        clear hb
        clear hs_b rt_b rc_b c0_b c1_b c2_b hs_a rt_a rc_a c0_a c1_a c2_a hs_y rt_y rc_y c0_y c1_y c2_y hs_x rt_x rc_x c0_x c1_x c2_x hB hs rt0 c00 c01 c20 c21
        obtain ⟨hs_b, rt_b, rc_b, c0_b, c1_b, c2_b, hs_a, rt_a, rc_a, c0_a, c1_a, c2_a, hs_y, rt_y, rc_y, c0_y, c1_y, c2_y, hs_x, rt_x, rc_x, c0_x, c1_x, c2_x, hB, hs, rt0, c00, c01, c20, c21⟩ := HX4.out _ hbk13.out
        clear hs_b rt_b rc_b c0_b c1_b c2_b hs_a rt_a rc_a c0_a c1_a c2_a hs_y rt_y rc_y c0_y c1_y c2_y hs_x rt_x rc_x c0_x c1_x c2_x hB hs rt0 c00 c01 c20 c21
        have HX5 : Hid (∀ W, Below (w13).heap.size w13 W → ((w13).heap.size ≤ (W).heap.size ∧ SlP W (W).heap.size 1 StE (.slice A13s (K).length c13s) K ∧ wq12.heap.size ≤ (W).heap.size ∧ B.rd W (W).heap.size (.slice A12x B.es.length n12x) (.slice B12x B.ks.length m12x) ∧ SlP W (W).heap.size 3 SpE (.slice D12x V.length k12x) V ∧ (W).cell? ⟨g12, 0, none⟩ = some (.slice A12x B.es.length n12x) ∧ (W).cell? ⟨g12, 1, none⟩ = some (.slice B12x B.ks.length m12x) ∧ (W).cell? ⟨g12, 2, none⟩ = some (.slice D12x V.length k12x) ∧ wq9.heap.size ≤ (W).heap.size ∧ A.rd W (W).heap.size (.slice A9x A.es.length n9x) (.slice B9x A.ks.length m9x) ∧ SlP W (W).heap.size 3 SpE (.slice D9x U.length k9x) U ∧ (W).cell? ⟨g9, 0, none⟩ = some (.slice A9x A.es.length n9x) ∧ (W).cell? ⟨g9, 1, none⟩ = some (.slice B9x A.ks.length m9x) ∧ (W).cell? ⟨g9, 2, none⟩ = some (.slice D9x U.length k9x) ∧ w6.heap.size + 1 ≤ (W).heap.size ∧ Y.rd W (W).heap.size (.slice A6x Y.es.length n6x) (.slice B6x Y.ks.length m6x) ∧ SlP W (W).heap.size 3 SpE (.slice D6x S.length k6x) S ∧ (W).cell? ⟨w6.heap.size, 0, none⟩ = some (.slice A6x Y.es.length n6x) ∧ (W).cell? ⟨w6.heap.size, 1, none⟩ = some (.slice B6x Y.ks.length m6x) ∧ (W).cell? ⟨w6.heap.size, 2, none⟩ = some (.slice D6x S.length k6x) ∧ w5.heap.size + 1 ≤ (W).heap.size ∧ X.rd W (W).heap.size (.slice A5x X.es.length n5x) (.slice B5x X.ks.length m5x) ∧ SlP W (W).heap.size 3 SpE (.slice D5x S.length k5x) S ∧ (W).cell? ⟨w5.heap.size, 0, none⟩ = some (.slice A5x X.es.length n5x) ∧ (W).cell? ⟨w5.heap.size, 1, none⟩ = some (.slice B5x X.ks.length m5x) ∧ (W).cell? ⟨w5.heap.size, 2, none⟩ = some (.slice D5x S.length k5x) ∧ Below w.heap.size w W ∧ w.heap.size + 2 ≤ (W).heap.size ∧ t.rd W (W).heap.size (.slice A0 t.es.length n0) (.slice B0 t.ks.length m0) ∧ (W).cell? ⟨w.heap.size, 0, none⟩ = some (.slice A0 t.es.length n0) ∧ (W).cell? ⟨w.heap.size, 1, none⟩ = some (.slice B0 t.ks.length m0) ∧ (W).cell? ⟨(w.heap.size + 1), 0, none⟩ = some (.int .i64 d.dc) ∧ (W).cell? ⟨(w.heap.size + 1), 1, none⟩ = some (.int .i64 d.n))) := fun W hW =>
          ⟨hW.size, HS13s.out.imp hW hW.size fun _ _ _ h => h, HX4.out W (hbk13.out.trans (hW.mono (by have := Below.size hbk13.out; first | omega | (simp at this ⊢; omega))))⟩
        obtain ⟨hs_b5, rl_k, hs_b, rt_b, rc_b, c0_b, c1_b, c2_b, hs_a, rt_a, rc_a, c0_a, c1_a, c2_a, hs_y, rt_y, rc_y, c0_y, c1_y, c2_y, hs_x, rt_x, rc_x, c0_x, c1_x, c2_x, hB, hs, rt0, c00, c01, c20, c21⟩ := HX5.out _ (Below.refl _ _)
        go_wp2_with fail
        refine (selems_any A _ _ _ rt_a (by omega)).mono ?_
        rw [HPA.out]
        rintro e w14 ⟨v14, rfl, ho14, hb⟩
        obtain ⟨A14s, c14s, hv14⟩ := ho14.shape
        subst hv14
        have HS14s := hid (ho14.sl (by unfold Big; first | omega | (simp; omega)))
        clear ho14
        have hbk14 : Hid (Below (w13).heap.size w13 w14) := hid (hb.mono (by first | omega | (simp; done) | (simp; omega)))
        clear hb
        clear hs_b5 rl_k hs_b rt_b rc_b c0_b c1_b c2_b hs_a rt_a rc_a c0_a c1_a c2_a hs_y rt_y rc_y c0_y c1_y c2_y hs_x rt_x rc_x c0_x c1_x c2_x hB hs rt0 c00 c01 c20 c21
        obtain ⟨hs_b5, rl_k, hs_b, rt_b, rc_b, c0_b, c1_b, c2_b, hs_a, rt_a, rc_a, c0_a, c1_a, c2_a, hs_y, rt_y, rc_y, c0_y, c1_y, c2_y, hs_x, rt_x, rc_x, c0_x, c1_x, c2_x, hB, hs, rt0, c00, c01, c20, c21⟩ := HX5.out _ hbk14.out
        clear hs_b5 rl_k hs_b rt_b rc_b c0_b c1_b c2_b hs_a rt_a rc_a c0_a c1_a c2_a hs_y rt_y rc_y c0_y c1_y c2_y hs_x rt_x rc_x c0_x c1_x c2_x hB hs rt0 c00 c01 c20 c21
        have HX6 : Hid (∀ W, Below (w14).heap.size w14 W → ((w14).heap.size ≤ (W).heap.size ∧ SlP W (W).heap.size 1 StE (.slice A14s (P).length c14s) P ∧ (w13).heap.size ≤ (W).heap.size ∧ SlP W (W).heap.size 1 StE (.slice A13s (K).length c13s) K ∧ wq12.heap.size ≤ (W).heap.size ∧ B.rd W (W).heap.size (.slice A12x B.es.length n12x) (.slice B12x B.ks.length m12x) ∧ SlP W (W).heap.size 3 SpE (.slice D12x V.length k12x) V ∧ (W).cell? ⟨g12, 0, none⟩ = some (.slice A12x B.es.length n12x) ∧ (W).cell? ⟨g12, 1, none⟩ = some (.slice B12x B.ks.length m12x) ∧ (W).cell? ⟨g12, 2, none⟩ = some (.slice D12x V.length k12x) ∧ wq9.heap.size ≤ (W).heap.size ∧ A.rd W (W).heap.size (.slice A9x A.es.length n9x) (.slice B9x A.ks.length m9x) ∧ SlP W (W).heap.size 3 SpE (.slice D9x U.length k9x) U ∧ (W).cell? ⟨g9, 0, none⟩ = some (.slice A9x A.es.length n9x) ∧ (W).cell? ⟨g9, 1, none⟩ = some (.slice B9x A.ks.length m9x) ∧ (W).cell? ⟨g9, 2, none⟩ = some (.slice D9x U.length k9x) ∧ w6.heap.size + 1 ≤ (W).heap.size ∧ Y.rd W (W).heap.size (.slice A6x Y.es.length n6x) (.slice B6x Y.ks.length m6x) ∧ SlP W (W).heap.size 3 SpE (.slice D6x S.length k6x) S ∧ (W).cell? ⟨w6.heap.size, 0, none⟩ = some (.slice A6x Y.es.length n6x) ∧ (W).cell? ⟨w6.heap.size, 1, none⟩ = some (.slice B6x Y.ks.length m6x) ∧ (W).cell? ⟨w6.heap.size, 2, none⟩ = some (.slice D6x S.length k6x) ∧ w5.heap.size + 1 ≤ (W).heap.size ∧ X.rd W (W).heap.size (.slice A5x X.es.length n5x) (.slice B5x X.ks.length m5x) ∧ SlP W (W).heap.size 3 SpE (.slice D5x S.length k5x) S ∧ (W).cell? ⟨w5.heap.size, 0, none⟩ = some (.slice A5x X.es.length n5x) ∧ (W).cell? ⟨w5.heap.size, 1, none⟩ = some (.slice B5x X.ks.length m5x) ∧ (W).cell? ⟨w5.heap.size, 2, none⟩ = some (.slice D5x S.length k5x) ∧ Below w.heap.size w W ∧ w.heap.size + 2 ≤ (W).heap.size ∧ t.rd W (W).heap.size (.slice A0 t.es.length n0) (.slice B0 t.ks.length m0) ∧ (W).cell? ⟨w.heap.size, 0, none⟩ = some (.slice A0 t.es.length n0) ∧ (W).cell? ⟨w.heap.size, 1, none⟩ = some (.slice B0 t.ks.length m0) ∧ (W).cell? ⟨(w.heap.size + 1), 0, none⟩ = some (.int .i64 d.dc) ∧ (W).cell? ⟨(w.heap.size + 1), 1, none⟩ = some (.int .i64 d.n))) := fun W hW =>
          ⟨hW.size, HS14s.out.imp hW hW.size fun _ _ _ h => h, HX5.out W (hbk14.out.trans (hW.mono (by have := Below.size hbk14.out; first | omega | (simp at this ⊢; omega))))⟩
        obtain ⟨hs_b6, rl_p, hs_b5, rl_k, hs_b, rt_b, rc_b, c0_b, c1_b, c2_b, hs_a, rt_a, rc_a, c0_a, c1_a, c2_a, hs_y, rt_y, rc_y, c0_y, c1_y, c2_y, hs_x, rt_x, rc_x, c0_x, c1_x, c2_x, hB, hs, rt0, c00, c01, c20, c21⟩ := HX6.out _ (Below.refl _ _)
        go_wp2_with fail
        refine (r10with_any K s _ _ rl_k h1 (by omega)).mono ?_
        rw [HPW.out]
        rintro e w15 ⟨v15, rfl, ho15, hb⟩
        obtain ⟨A15s, c15s, hv15⟩ := ho15.shape
        subst hv15
        have HS15s := hid (ho15.sl (by unfold Big; first | omega | (simp; omega)))
        clear ho15
        have hbk15 : Hid (Below (w14).heap.size w14 w15) := hid (hb.mono (by first | omega | (simp; done) | (simp; omega)))
        clear hb
        clear hs_b6 rl_p hs_b5 rl_k hs_b rt_b rc_b c0_b c1_b c2_b hs_a rt_a rc_a c0_a c1_a c2_a hs_y rt_y rc_y c0_y c1_y c2_y hs_x rt_x rc_x c0_x c1_x c2_x hB hs rt0 c00 c01 c20 c21
        obtain ⟨hs_b6, rl_p, hs_b5, rl_k, hs_b, rt_b, rc_b, c0_b, c1_b, c2_b, hs_a, rt_a, rc_a, c0_a, c1_a, c2_a, hs_y, rt_y, rc_y, c0_y, c1_y, c2_y, hs_x, rt_x, rc_x, c0_x, c1_x, c2_x, hB, hs, rt0, c00, c01, c20, c21⟩ := HX6.out _ hbk15.out
        clear hs_b6 rl_p hs_b5 rl_k hs_b rt_b rc_b c0_b c1_b c2_b hs_a rt_a rc_a c0_a c1_a c2_a hs_y rt_y rc_y c0_y c1_y c2_y hs_x rt_x rc_x c0_x c1_x c2_x hB hs rt0 c00 c01 c20 c21
        have HX7 : Hid (∀ W, Below (w15).heap.size w15 W → ((w15).heap.size ≤ (W).heap.size ∧ SlP W (W).heap.size 1 StE (.slice A15s (P).length c15s) P ∧ (w14).heap.size ≤ (W).heap.size ∧ SlP W (W).heap.size 1 StE (.slice A14s (P).length c14s) P ∧ (w13).heap.size ≤ (W).heap.size ∧ SlP W (W).heap.size 1 StE (.slice A13s (K).length c13s) K ∧ wq12.heap.size ≤ (W).heap.size ∧ B.rd W (W).heap.size (.slice A12x B.es.length n12x) (.slice B12x B.ks.length m12x) ∧ SlP W (W).heap.size 3 SpE (.slice D12x V.length k12x) V ∧ (W).cell? ⟨g12, 0, none⟩ = some (.slice A12x B.es.length n12x) ∧ (W).cell? ⟨g12, 1, none⟩ = some (.slice B12x B.ks.length m12x) ∧ (W).cell? ⟨g12, 2, none⟩ = some (.slice D12x V.length k12x) ∧ wq9.heap.size ≤ (W).heap.size ∧ A.rd W (W).heap.size (.slice A9x A.es.length n9x) (.slice B9x A.ks.length m9x) ∧ SlP W (W).heap.size 3 SpE (.slice D9x U.length k9x) U ∧ (W).cell? ⟨g9, 0, none⟩ = some (.slice A9x A.es.length n9x) ∧ (W).cell? ⟨g9, 1, none⟩ = some (.slice B9x A.ks.length m9x) ∧ (W).cell? ⟨g9, 2, none⟩ = some (.slice D9x U.length k9x) ∧ w6.heap.size + 1 ≤ (W).heap.size ∧ Y.rd W (W).heap.size (.slice A6x Y.es.length n6x) (.slice B6x Y.ks.length m6x) ∧ SlP W (W).heap.size 3 SpE (.slice D6x S.length k6x) S ∧ (W).cell? ⟨w6.heap.size, 0, none⟩ = some (.slice A6x Y.es.length n6x) ∧ (W).cell? ⟨w6.heap.size, 1, none⟩ = some (.slice B6x Y.ks.length m6x) ∧ (W).cell? ⟨w6.heap.size, 2, none⟩ = some (.slice D6x S.length k6x) ∧ w5.heap.size + 1 ≤ (W).heap.size ∧ X.rd W (W).heap.size (.slice A5x X.es.length n5x) (.slice B5x X.ks.length m5x) ∧ SlP W (W).heap.size 3 SpE (.slice D5x S.length k5x) S ∧ (W).cell? ⟨w5.heap.size, 0, none⟩ = some (.slice A5x X.es.length n5x) ∧ (W).cell? ⟨w5.heap.size, 1, none⟩ = some (.slice B5x X.ks.length m5x) ∧ (W).cell? ⟨w5.heap.size, 2, none⟩ = some (.slice D5x S.length k5x) ∧ Below w.heap.size w W ∧ w.heap.size + 2 ≤ (W).heap.size ∧ t.rd W (W).heap.size (.slice A0 t.es.length n0) (.slice B0 t.ks.length m0) ∧ (W).cell? ⟨w.heap.size, 0, none⟩ = some (.slice A0 t.es.length n0) ∧ (W).cell? ⟨w.heap.size, 1, none⟩ = some (.slice B0 t.ks.length m0) ∧ (W).cell? ⟨(w.heap.size + 1), 0, none⟩ = some (.int .i64 d.dc) ∧ (W).cell? ⟨(w.heap.size + 1), 1, none⟩ = some (.int .i64 d.n))) := fun W hW =>
          ⟨hW.size, HS15s.out.imp hW hW.size fun _ _ _ h => h, HX6.out W (hbk15.out.trans (hW.mono (by have := Below.size hbk15.out; first | omega | (simp at this ⊢; omega))))⟩
        obtain ⟨hs_b7, rl_p2, hs_b6, rl_p, hs_b5, rl_k, hs_b, rt_b, rc_b, c0_b, c1_b, c2_b, hs_a, rt_a, rc_a, c0_a, c1_a, c2_a, hs_y, rt_y, rc_y, c0_y, c1_y, c2_y, hs_x, rt_x, rc_x, c0_x, c1_x, c2_x, hB, hs, rt0, c00, c01, c20, c21⟩ := HX7.out _ (Below.refl _ _)
        go_wp2_with fail
        refine (r10alike_any P P _ _ w15 (w15).heap.size rl_p rl_p2).mono ?_
        rw [show decide (P = P) = true from decide_eq_true rfl]
        rintro e w16 ⟨rfl, q16, hw16⟩
        have hb : Below (w15).heap.size w15 w16 := hw16 ▸ below_drewN (Below.refl (w15).heap.size w15) q16
        clear hw16
        have hbk16 : Hid (Below (w15).heap.size w15 w16) := hid (hb.mono (by first | omega | (simp; done) | (simp; omega)))
        clear hb
        clear hs_b7 rl_p2 hs_b6 rl_p hs_b5 rl_k hs_b rt_b rc_b c0_b c1_b c2_b hs_a rt_a rc_a c0_a c1_a c2_a hs_y rt_y rc_y c0_y c1_y c2_y hs_x rt_x rc_x c0_x c1_x c2_x hB hs rt0 c00 c01 c20 c21
        obtain ⟨hs_b7, rl_p2, hs_b6, rl_p, hs_b5, rl_k, hs_b, rt_b, rc_b, c0_b, c1_b, c2_b, hs_a, rt_a, rc_a, c0_a, c1_a, c2_a, hs_y, rt_y, rc_y, c0_y, c1_y, c2_y, hs_x, rt_x, rc_x, c0_x, c1_x, c2_x, hB, hs, rt0, c00, c01, c20, c21⟩ := HX7.out _ hbk16.out
        go_wp2_with fail
        refine (selems_any B _ _ _ rt_b (by omega)).mono ?_
        rw [HQB.out]
        rintro e w17 ⟨v17, rfl, ho17, hb⟩
        obtain ⟨A17s, c17s, hv17⟩ := ho17.shape
        subst hv17
        have HS17s := hid (ho17.sl (by unfold Big; first | omega | (simp; omega)))
        clear ho17
        have hbk17 : Hid (Below (w15).heap.size w15 w17) := hid (hbk16.out.trans (hb.mono (by first | omega | (simp; done) | (simp; omega))))
        clear hb
        clear hs_b7 rl_p2 hs_b6 rl_p hs_b5 rl_k hs_b rt_b rc_b c0_b c1_b c2_b hs_a rt_a rc_a c0_a c1_a c2_a hs_y rt_y rc_y c0_y c1_y c2_y hs_x rt_x rc_x c0_x c1_x c2_x hB hs rt0 c00 c01 c20 c21
        obtain ⟨hs_b7, rl_p2, hs_b6, rl_p, hs_b5, rl_k, hs_b, rt_b, rc_b, c0_b, c1_b, c2_b, hs_a, rt_a, rc_a, c0_a, c1_a, c2_a, hs_y, rt_y, rc_y, c0_y, c1_y, c2_y, hs_x, rt_x, rc_x, c0_x, c1_x, c2_x, hB, hs, rt0, c00, c01, c20, c21⟩ := HX7.out _ hbk17.out
        clear hs_b7 rl_p2 hs_b6 rl_p hs_b5 rl_k hs_b rt_b rc_b c0_b c1_b c2_b hs_a rt_a rc_a c0_a c1_a c2_a hs_y rt_y rc_y c0_y c1_y c2_y hs_x rt_x rc_x c0_x c1_x c2_x hB hs rt0 c00 c01 c20 c21
        have HX8 : Hid (∀ W, Below (w17).heap.size w17 W → ((w17).heap.size ≤ (W).heap.size ∧ SlP W (W).heap.size 1 StE (.slice A17s (Q).length c17s) Q ∧ (w15).heap.size ≤ (W).heap.size ∧ SlP W (W).heap.size 1 StE (.slice A15s (P).length c15s) P ∧ (w14).heap.size ≤ (W).heap.size ∧ SlP W (W).heap.size 1 StE (.slice A14s (P).length c14s) P ∧ (w13).heap.size ≤ (W).heap.size ∧ SlP W (W).heap.size 1 StE (.slice A13s (K).length c13s) K ∧ wq12.heap.size ≤ (W).heap.size ∧ B.rd W (W).heap.size (.slice A12x B.es.length n12x) (.slice B12x B.ks.length m12x) ∧ SlP W (W).heap.size 3 SpE (.slice D12x V.length k12x) V ∧ (W).cell? ⟨g12, 0, none⟩ = some (.slice A12x B.es.length n12x) ∧ (W).cell? ⟨g12, 1, none⟩ = some (.slice B12x B.ks.length m12x) ∧ (W).cell? ⟨g12, 2, none⟩ = some (.slice D12x V.length k12x) ∧ wq9.heap.size ≤ (W).heap.size ∧ A.rd W (W).heap.size (.slice A9x A.es.length n9x) (.slice B9x A.ks.length m9x) ∧ SlP W (W).heap.size 3 SpE (.slice D9x U.length k9x) U ∧ (W).cell? ⟨g9, 0, none⟩ = some (.slice A9x A.es.length n9x) ∧ (W).cell? ⟨g9, 1, none⟩ = some (.slice B9x A.ks.length m9x) ∧ (W).cell? ⟨g9, 2, none⟩ = some (.slice D9x U.length k9x) ∧ w6.heap.size + 1 ≤ (W).heap.size ∧ Y.rd W (W).heap.size (.slice A6x Y.es.length n6x) (.slice B6x Y.ks.length m6x) ∧ SlP W (W).heap.size 3 SpE (.slice D6x S.length k6x) S ∧ (W).cell? ⟨w6.heap.size, 0, none⟩ = some (.slice A6x Y.es.length n6x) ∧ (W).cell? ⟨w6.heap.size, 1, none⟩ = some (.slice B6x Y.ks.length m6x) ∧ (W).cell? ⟨w6.heap.size, 2, none⟩ = some (.slice D6x S.length k6x) ∧ w5.heap.size + 1 ≤ (W).heap.size ∧ X.rd W (W).heap.size (.slice A5x X.es.length n5x) (.slice B5x X.ks.length m5x) ∧ SlP W (W).heap.size 3 SpE (.slice D5x S.length k5x) S ∧ (W).cell? ⟨w5.heap.size, 0, none⟩ = some (.slice A5x X.es.length n5x) ∧ (W).cell? ⟨w5.heap.size, 1, none⟩ = some (.slice B5x X.ks.length m5x) ∧ (W).cell? ⟨w5.heap.size, 2, none⟩ = some (.slice D5x S.length k5x) ∧ Below w.heap.size w W ∧ w.heap.size + 2 ≤ (W).heap.size ∧ t.rd W (W).heap.size (.slice A0 t.es.length n0) (.slice B0 t.ks.length m0) ∧ (W).cell? ⟨w.heap.size, 0, none⟩ = some (.slice A0 t.es.length n0) ∧ (W).cell? ⟨w.heap.size, 1, none⟩ = some (.slice B0 t.ks.length m0) ∧ (W).cell? ⟨(w.heap.size + 1), 0, none⟩ = some (.int .i64 d.dc) ∧ (W).cell? ⟨(w.heap.size + 1), 1, none⟩ = some (.int .i64 d.n))) := fun W hW =>
          ⟨hW.size, HS17s.out.imp hW hW.size fun _ _ _ h => h, HX7.out W (hbk17.out.trans (hW.mono (by have := Below.size hbk17.out; first | omega | (simp at this ⊢; omega))))⟩
        obtain ⟨hs_b8, rl_q, hs_b7, rl_p2, hs_b6, rl_p, hs_b5, rl_k, hs_b, rt_b, rc_b, c0_b, c1_b, c2_b, hs_a, rt_a, rc_a, c0_a, c1_a, c2_a, hs_y, rt_y, rc_y, c0_y, c1_y, c2_y, hs_x, rt_x, rc_x, c0_x, c1_x, c2_x, hB, hs, rt0, c00, c01, c20, c21⟩ := HX8.out _ (Below.refl _ _)
        go_wp2_with fail
        refine (r10less_any K s _ _ rl_k (by omega)).mono ?_
        rw [HQL.out]
        rintro e w18 ⟨v18, rfl, ho18, hb⟩
        obtain ⟨A18s, c18s, hv18⟩ := ho18.shape
        subst hv18
        have HS18s := hid (ho18.sl (by unfold Big; first | omega | (simp; omega)))
        clear ho18
        have hbk18 : Hid (Below (w17).heap.size w17 w18) := hid (hb.mono (by first | omega | (simp; done) | (simp; omega)))
        clear hb
        clear hs_b8 rl_q hs_b7 rl_p2 hs_b6 rl_p hs_b5 rl_k hs_b rt_b rc_b c0_b c1_b c2_b hs_a rt_a rc_a c0_a c1_a c2_a hs_y rt_y rc_y c0_y c1_y c2_y hs_x rt_x rc_x c0_x c1_x c2_x hB hs rt0 c00 c01 c20 c21
        obtain ⟨hs_b8, rl_q, hs_b7, rl_p2, hs_b6, rl_p, hs_b5, rl_k, hs_b, rt_b, rc_b, c0_b, c1_b, c2_b, hs_a, rt_a, rc_a, c0_a, c1_a, c2_a, hs_y, rt_y, rc_y, c0_y, c1_y, c2_y, hs_x, rt_x, rc_x, c0_x, c1_x, c2_x, hB, hs, rt0, c00, c01, c20, c21⟩ := HX8.out _ hbk18.out
        clear hs_b8 rl_q hs_b7 rl_p2 hs_b6 rl_p hs_b5 rl_k hs_b rt_b rc_b c0_b c1_b c2_b hs_a rt_a rc_a c0_a c1_a c2_a hs_y rt_y rc_y c0_y c1_y c2_y hs_x rt_x rc_x c0_x c1_x c2_x hB hs rt0 c00 c01 c20 c21
        have HX9 : Hid (∀ W, Below (w18).heap.size w18 W → ((w18).heap.size ≤ (W).heap.size ∧ SlP W (W).heap.size 1 StE (.slice A18s (Q).length c18s) Q ∧ (w17).heap.size ≤ (W).heap.size ∧ SlP W (W).heap.size 1 StE (.slice A17s (Q).length c17s) Q ∧ (w15).heap.size ≤ (W).heap.size ∧ SlP W (W).heap.size 1 StE (.slice A15s (P).length c15s) P ∧ (w14).heap.size ≤ (W).heap.size ∧ SlP W (W).heap.size 1 StE (.slice A14s (P).length c14s) P ∧ (w13).heap.size ≤ (W).heap.size ∧ SlP W (W).heap.size 1 StE (.slice A13s (K).length c13s) K ∧ wq12.heap.size ≤ (W).heap.size ∧ B.rd W (W).heap.size (.slice A12x B.es.length n12x) (.slice B12x B.ks.length m12x) ∧ SlP W (W).heap.size 3 SpE (.slice D12x V.length k12x) V ∧ (W).cell? ⟨g12, 0, none⟩ = some (.slice A12x B.es.length n12x) ∧ (W).cell? ⟨g12, 1, none⟩ = some (.slice B12x B.ks.length m12x) ∧ (W).cell? ⟨g12, 2, none⟩ = some (.slice D12x V.length k12x) ∧ wq9.heap.size ≤ (W).heap.size ∧ A.rd W (W).heap.size (.slice A9x A.es.length n9x) (.slice B9x A.ks.length m9x) ∧ SlP W (W).heap.size 3 SpE (.slice D9x U.length k9x) U ∧ (W).cell? ⟨g9, 0, none⟩ = some (.slice A9x A.es.length n9x) ∧ (W).cell? ⟨g9, 1, none⟩ = some (.slice B9x A.ks.length m9x) ∧ (W).cell? ⟨g9, 2, none⟩ = some (.slice D9x U.length k9x) ∧ w6.heap.size + 1 ≤ (W).heap.size ∧ Y.rd W (W).heap.size (.slice A6x Y.es.length n6x) (.slice B6x Y.ks.length m6x) ∧ SlP W (W).heap.size 3 SpE (.slice D6x S.length k6x) S ∧ (W).cell? ⟨w6.heap.size, 0, none⟩ = some (.slice A6x Y.es.length n6x) ∧ (W).cell? ⟨w6.heap.size, 1, none⟩ = some (.slice B6x Y.ks.length m6x) ∧ (W).cell? ⟨w6.heap.size, 2, none⟩ = some (.slice D6x S.length k6x) ∧ w5.heap.size + 1 ≤ (W).heap.size ∧ X.rd W (W).heap.size (.slice A5x X.es.length n5x) (.slice B5x X.ks.length m5x) ∧ SlP W (W).heap.size 3 SpE (.slice D5x S.length k5x) S ∧ (W).cell? ⟨w5.heap.size, 0, none⟩ = some (.slice A5x X.es.length n5x) ∧ (W).cell? ⟨w5.heap.size, 1, none⟩ = some (.slice B5x X.ks.length m5x) ∧ (W).cell? ⟨w5.heap.size, 2, none⟩ = some (.slice D5x S.length k5x) ∧ Below w.heap.size w W ∧ w.heap.size + 2 ≤ (W).heap.size ∧ t.rd W (W).heap.size (.slice A0 t.es.length n0) (.slice B0 t.ks.length m0) ∧ (W).cell? ⟨w.heap.size, 0, none⟩ = some (.slice A0 t.es.length n0) ∧ (W).cell? ⟨w.heap.size, 1, none⟩ = some (.slice B0 t.ks.length m0) ∧ (W).cell? ⟨(w.heap.size + 1), 0, none⟩ = some (.int .i64 d.dc) ∧ (W).cell? ⟨(w.heap.size + 1), 1, none⟩ = some (.int .i64 d.n))) := fun W hW =>
          ⟨hW.size, HS18s.out.imp hW hW.size fun _ _ _ h => h, HX8.out W (hbk18.out.trans (hW.mono (by have := Below.size hbk18.out; first | omega | (simp at this ⊢; omega))))⟩
        obtain ⟨hs_b9, rl_q2, hs_b8, rl_q, hs_b7, rl_p2, hs_b6, rl_p, hs_b5, rl_k, hs_b, rt_b, rc_b, c0_b, c1_b, c2_b, hs_a, rt_a, rc_a, c0_a, c1_a, c2_a, hs_y, rt_y, rc_y, c0_y, c1_y, c2_y, hs_x, rt_x, rc_x, c0_x, c1_x, c2_x, hB, hs, rt0, c00, c01, c20, c21⟩ := HX9.out _ (Below.refl _ _)
        go_wp2_with fail
        refine (r10alike_any Q Q _ _ w18 (w18).heap.size rl_q rl_q2).mono ?_
        rw [show decide (Q = Q) = true from decide_eq_true rfl]
        rintro e w19 ⟨rfl, q19, hw19⟩
        have hb : Below (w18).heap.size w18 w19 := hw19 ▸ below_drewN (Below.refl (w18).heap.size w18) q19
        clear hw19
        have hbk19 : Hid (Below (w18).heap.size w18 w19) := hid (hb.mono (by first | omega | (simp; done) | (simp; omega)))
        clear hb
        clear hs_b9 rl_q2 hs_b8 rl_q hs_b7 rl_p2 hs_b6 rl_p hs_b5 rl_k hs_b rt_b rc_b c0_b c1_b c2_b hs_a rt_a rc_a c0_a c1_a c2_a hs_y rt_y rc_y c0_y c1_y c2_y hs_x rt_x rc_x c0_x c1_x c2_x hB hs rt0 c00 c01 c20 c21
        obtain ⟨hs_b9, rl_q2, hs_b8, rl_q, hs_b7, rl_p2, hs_b6, rl_p, hs_b5, rl_k, hs_b, rt_b, rc_b, c0_b, c1_b, c2_b, hs_a, rt_a, rc_a, c0_a, c1_a, c2_a, hs_y, rt_y, rc_y, c0_y, c1_y, c2_y, hs_x, rt_x, rc_x, c0_x, c1_x, c2_x, hB, hs, rt0, c00, c01, c20, c21⟩ := HX9.out _ hbk19.out
        go_wp2_with fail
        go_ret
        exact ⟨rfl, hB⟩
  · rw [fl] at hfi
    clear hc hon
    go_wp2_with fail
    refine (awake11_any _).mono ?_
    rintro e w5 ⟨rfl, hb⟩
    have hbk5 : Hid (Below (w.heap.size + 2) ((w.alloc (.cells #[.slice A0 t.es.length n0, .slice B0 t.ks.length m0] 27)).alloc (.cells #[.int .i64 d.dc, .int .i64 d.n] 54)) w5) := hid (hbk4.out.trans (hb.mono (by first | omega | (simp; done) | (simp; omega))))
    clear hb
    clear hB hs rt0 c00 c01 c20 c21
    obtain ⟨hB, hs, rt0, c00, c01, c20, c21⟩ := HX0.out _ hbk5.out
    go_wp2_with fail
    go_ret
    exact ⟨rfl, hB⟩
end Go.Proofs.YtmphgnjodangcaaGreat

namespace Go.Proofs.YtmphgnjodangcaaGreat
open Go.RowKit
set_option maxRecDepth 100000

theorem chk_mk {t : Tr} {d : Dt} (h : t.right 5 = true) (hd : d.right = true) (hn : d ∉ t.dots) : chkT t d = true := by
  unfold chkT
  have h1 : hasC (ctxOf t.dots) d = false := by
    cases h2 : hasC (ctxOf t.dots) d
    · rfl
    · exact absurd ((hasC_dots h).1 h2) hn
  rw [h, hd, h1]; rfl
theorem not_dots {A : Tr} {U : List Sp} (h : CaOk A U) {f : Dt} (hf : hasC U f = false) : f ∉ A.dots := fun hm => by
  obtain ⟨p, e, he, hd⟩ := (mem_dots _ _).1 hm
  have := h.has _ he
  simp only at this
  rw [hd, hf] at this
  cases this
theorem del_gone {A : Tr} {U : List Sp} {s : ByteArray} {f : Dt} (hA : CaOk A U) (hf : f.right = true) : hasE (jT A (.mk [] []) U (seenC (kidT A s) f)) s = false := by
  have hr := (right_iff hA.ord).2 hA.leaf
  have hkr := kid_rightT hr s
  have hY : CaOk (Tr.mk [] []) (seenC (kidT A s) f) := nil_ok (seen_apart hkr hf)
  have hB := jT_ok hA hY
  cases h : hasE (jT A (.mk [] []) U (seenC (kidT A s) f)) s
  · rfl
  · exfalso
    rw [hasE_mem ((right_iff hB.ord).2 hB.leaf), elL_st hB.ord] at h
    obtain ⟨d', e, h⟩ := h
    rw [stE_join hA hY, stE_nil] at h
    cases hs : stE A [s] d' with
    | none => rw [hs] at h; simp [jnO] at h
    | some y =>
      obtain ⟨h1, h2⟩ := (stE_some hA.ord).1 hs
      have h3 : d' ∈ (kidT A s).dots := (mem_dots _ _).2 ⟨[], y, (mem_kidT hA.ord).2 h1, h2⟩
      rw [hs, seen_hasB hkr hf] at h
      simp [jnO, h3] at h
set_option maxHeartbeats 2000000 in
theorem sb_plain {t : Tr} {s u : ByteArray} {d e f : Dt} (hm : sckB t s d = true) (hm2 : sckB t u e = true) (hm3 : sckB t s f = true) (hde : d ≠ e) (hdf : d ≠ f) (hef : e ≠ f) (hl : t.ks.length < 23) (hz : t.sz ≤ 60) : ∃ (X Y W : Tr) (S R : List Sp) (A : Tr) (U Z : List Sp) (B : Tr) (V : List Sp),
    Hid (W = .mk [] []) ∧ Hid (addT t s d = X) ∧ Hid (addC t s d = S) ∧ Hid (addE t s d = 0) ∧ Hid (addT t u e = Y) ∧ Hid (addC t u e = R) ∧ Hid (addE t u e = 0) ∧
    Hid ((jaR [(t, knC t), (X, S), (Y, R)]).1 = A) ∧ Hid ((jaR [(t, knC t), (X, S), (Y, R)]).2 = U) ∧ Hid (jaE [(t, knC t), (X, S), (Y, R)] = 0) ∧
    Hid (hasE A s = true) ∧ Hid (hasE A u = true) ∧ Hid (delC A s f = Z) ∧ Hid (sckI A s f = 0) ∧ Hid (jnE A W U Z = 0) ∧ Hid (jnT A W U Z = B) ∧ Hid (jnC A W U Z = V) ∧
    Hid (hasE B s = false) ∧ Hid (hasE B u = !decide (s = u)) ∧
    X.sz ≤ 40 ∧ Y.sz ≤ 40 ∧ W.sz ≤ 40 ∧ A.sz ≤ 200 ∧ A.ks.length ≤ 200 ∧ B.ks.length ≤ 200 ∧ S.length ≤ 4000 ∧ R.length ≤ 4000 ∧ U.length ≤ 10000 ∧ Z.length ≤ 10000 ∧ (knC t).length ≤ 400 ∧ Hid (∀ d ∈ t.dots, 0 ≤ d.n ∧ d.n ≤ 1099511627778) := by
  obtain ⟨hc, hk1⟩ := sck_chk hm
  obtain ⟨hc2, hk2⟩ := sck_chk hm2
  obtain ⟨hc3, _⟩ := sck_chk hm3
  obtain ⟨g1, g2, g3⟩ := chkT_dots hc
  obtain ⟨_, g4, g5⟩ := chkT_dots hc2
  obtain ⟨_, g6, g7⟩ := chkT_dots hc3
  have hk := known_ok g1
  have hkr := kid_rightT g1 s
  have hkr2 := kid_rightT g1 u
  have hE : addE t s d = 0 := by unfold addE; rw [hm]; simp; omega
  have hE2 : addE t u e = 0 := by unfold addE; rw [hm2]; simp; omega
  have hT1 : addT t s d = .mk [] [(s, tOne ⟨d.dc, d.n, ByteArray.empty, 0⟩)] := by unfold addT; rw [if_pos hE]; rfl
  have hT2 : addT t u e = .mk [] [(u, tOne ⟨e.dc, e.n, ByteArray.empty, 0⟩)] := by unfold addT; rw [if_pos hE2]; rfl
  have hC1 : addC t s d = seenC (kidT t s) d := by unfold addC; rw [if_pos hE]
  have hC2 : addC t u e = seenC (kidT t u) e := by unfold addC; rw [if_pos hE2]
  have hed : (⟨d.dc, d.n, ByteArray.empty, 0⟩ : En).dot = d := rfl
  have hee : (⟨e.dc, e.n, ByteArray.empty, 0⟩ : En).dot = e := rfl
  have hX : KOk (Tr.mk [] [(s, tOne ⟨d.dc, d.n, ByteArray.empty, 0⟩)], seenC (kidT t s) d) := tKey_ok hk1 (dot_en_right g2) (seen_apart hkr g2) (by rw [hed]; exact (seen_has hkr g2).2 (.inr rfl))
  have hY : KOk (Tr.mk [] [(u, tOne ⟨e.dc, e.n, ByteArray.empty, 0⟩)], seenC (kidT t u) e) := tKey_ok hk2 (dot_en_right g4) (seen_apart hkr2 g4) (by rw [hee]; exact (seen_has hkr2 g4).2 (.inr rfl))
  have hK : KOk (t, knC t) := hk
  obtain ⟨a1, a2, a3⟩ := ja_three hK hX hY (List.Perm.refl _)
  have nd : ∀ {x : Dt} (p : ByteArray), x ∉ t.dots → x ∉ (kidT t p).dots := fun p h k => h (kid_dots hk.ord k)
  have x1 : stE (Tr.mk [] [(s, tOne ⟨d.dc, d.n, ByteArray.empty, 0⟩)]) [s] d = some ⟨d.dc, d.n, ByteArray.empty, 0⟩ := (stE_some (tKey_ord hk1)).2 ⟨tKey_mem.2 rfl, rfl⟩
  have x2 : ∀ p, stE (Tr.mk [] [(s, tOne ⟨d.dc, d.n, ByteArray.empty, 0⟩)]) p e = none := fun p => (stE_none (tKey_ord hk1)).2 fun z hz hzd => by
    have := tKey_mem.1 hz
    simp at this
    rw [this.2, hed] at hzd
    exact hde hzd
  have y1 : stE (Tr.mk [] [(u, tOne ⟨e.dc, e.n, ByteArray.empty, 0⟩)]) [u] e = some ⟨e.dc, e.n, ByteArray.empty, 0⟩ := (stE_some (tKey_ord hk2)).2 ⟨tKey_mem.2 rfl, rfl⟩
  have y2 : ∀ p, stE (Tr.mk [] [(u, tOne ⟨e.dc, e.n, ByteArray.empty, 0⟩)]) p d = none := fun p => (stE_none (tKey_ord hk2)).2 fun z hz hzd => by
    have := tKey_mem.1 hz
    simp at this
    rw [this.2, hee] at hzd
    exact hde hzd.symm
  have y3 : s ≠ u → ∀ p, stE (Tr.mk [] [(u, tOne ⟨e.dc, e.n, ByteArray.empty, 0⟩)]) (s :: p) e = none := fun h p => (stE_none (tKey_ord hk2)).2 fun z hz hzd => by
    have := tKey_mem.1 hz
    simp at this
    exact h this.1.1
  have hst1 : stE (jn (jn (t, knC t) (Tr.mk [] [(s, tOne ⟨d.dc, d.n, ByteArray.empty, 0⟩)], seenC (kidT t s) d)) (Tr.mk [] [(u, tOne ⟨e.dc, e.n, ByteArray.empty, 0⟩)], seenC (kidT t u) e)).1 [s] d = some ⟨d.dc, d.n, ByteArray.empty, 0⟩ := by
    rw [jn_st (jn_okK hK hX) hY, jn_st hK hX, x1, y2, seen_hasB hkr2 g4, stE_out hk.ord g3, kn_hasB g1]
    simp [jnO, g3, nd u g3, hde]
  have hst2 : stE (jn (jn (t, knC t) (Tr.mk [] [(s, tOne ⟨d.dc, d.n, ByteArray.empty, 0⟩)], seenC (kidT t s) d)) (Tr.mk [] [(u, tOne ⟨e.dc, e.n, ByteArray.empty, 0⟩)], seenC (kidT t u) e)).1 [u] e = some ⟨e.dc, e.n, ByteArray.empty, 0⟩ := by
    rw [jn_st (jn_okK hK hX) hY, jn_st hK hX, x2, y1, stE_out hk.ord g5, jn_has hK hX, kn_hasB g1, seen_hasB hkr g2]
    simp [jnO, g5, nd s g5, hde.symm]
  have hst3 : s ≠ u → ∀ p, stE (jn (jn (t, knC t) (Tr.mk [] [(s, tOne ⟨d.dc, d.n, ByteArray.empty, 0⟩)], seenC (kidT t s) d)) (Tr.mk [] [(u, tOne ⟨e.dc, e.n, ByteArray.empty, 0⟩)], seenC (kidT t u) e)).1 (s :: p) e = none := fun h p => by
    rw [jn_st (jn_okK hK hX) hY, jn_st hK hX, x2, y3 h, stE_out hk.ord g5]
    simp [jnO]
  have hUf : hasC (jn (jn (t, knC t) (Tr.mk [] [(s, tOne ⟨d.dc, d.n, ByteArray.empty, 0⟩)], seenC (kidT t s) d)) (Tr.mk [] [(u, tOne ⟨e.dc, e.n, ByteArray.empty, 0⟩)], seenC (kidT t u) e)).2 f = false := by
    rw [jn_has (jn_okK hK hX) hY, jn_has hK hX, kn_hasB g1, seen_hasB hkr g2, seen_hasB hkr2 g4]
    simp [g7, nd s g7, nd u g7, hdf.symm, hef.symm]
  have s1 := jn_sz hK hX
  have s2 := jn_sz (jn_okK hK hX) hY
  have hkz := kidT_sz t s
  have hkz2 := kidT_sz t u
  have s3 := kn_sz (t := t) (by omega)
  have s4 := seen_sz (t := kidT t s) (d := d) (by omega)
  have s5 := seen_sz (t := kidT t u) (d := e) (by omega)
  have z1 : (Tr.mk [] [(s, tOne ⟨d.dc, d.n, ByteArray.empty, 0⟩)]).sz = 2 := by simp [Tr.sz, Tr.szL]
  have z2 : (Tr.mk [] [(u, tOne ⟨e.dc, e.n, ByteArray.empty, 0⟩)]).sz = 2 := by simp [Tr.sz, Tr.szL]
  have z3 : (Tr.mk [] []).sz = 0 := by simp [Tr.sz, Tr.szL]
  simp only at s1 s2
  have s7 : (jn (jn (t, knC t) (Tr.mk [] [(s, tOne ⟨d.dc, d.n, ByteArray.empty, 0⟩)], seenC (kidT t s) d)) (Tr.mk [] [(u, tOne ⟨e.dc, e.n, ByteArray.empty, 0⟩)], seenC (kidT t u) e)).2.length ≤ 10000 := by omega
  have s8 : (jn (jn (t, knC t) (Tr.mk [] [(s, tOne ⟨d.dc, d.n, ByteArray.empty, 0⟩)], seenC (kidT t s) d)) (Tr.mk [] [(u, tOne ⟨e.dc, e.n, ByteArray.empty, 0⟩)], seenC (kidT t u) e)).1.sz ≤ 64 := by omega
  clear s1 s2 x1 x2 y1 y2 y3
  generalize (jn (jn (t, knC t) (Tr.mk [] [(s, tOne ⟨d.dc, d.n, ByteArray.empty, 0⟩)], seenC (kidT t s) d)) (Tr.mk [] [(u, tOne ⟨e.dc, e.n, ByteArray.empty, 0⟩)], seenC (kidT t u) e)) = J at a2 a3 hst1 hst2 hst3 hUf s7 s8
  have hr := (right_iff a3.ord).2 a3.leaf
  have h1 : hasE J.1 s = true := (hasE_mem hr).2 ((elL_st a3.ord).2 ⟨_, _, hst1⟩)
  have h2 : hasE J.1 u = true := (hasE_mem hr).2 ((elL_st a3.ord).2 ⟨_, _, hst2⟩)
  have hm4 : sckB J.1 s f = true := by unfold sckB; rw [chk_mk hr g6 (not_dots a3 hUf), hk1]; rfl
  have hC4 : delC J.1 s f = seenC (kidT J.1 s) f := by unfold delC; rw [if_pos hm4]
  have hkrJ := kid_rightT hr s
  have hZ : CaOk (Tr.mk [] []) (seenC (kidT J.1 s) f) := nil_ok (seen_apart hkrJ g6)
  have hB := jT_ok a3 hZ
  obtain ⟨b1, b2, b3⟩ := jn_ok a3 hZ
  have hk3 := kidT_sz J.1 s
  have s9 := jT_sz a3 hZ
  have s6 := seenC_len (kidT J.1 s) f
  have k1 := es_sz J.1
  have k2 := es_sz (jT J.1 (.mk [] []) J.2 (seenC (kidT J.1 s) f))
  have hgone := del_gone (s := s) a3 g6
  have hlast : hasE (jT J.1 (.mk [] []) J.2 (seenC (kidT J.1 s) f)) u = !decide (s = u) := by
    by_cases hsu : s = u
    · subst hsu; rw [hgone]; simp
    · have hne : e ∉ (kidT J.1 s).dots := fun h => by
        obtain ⟨p, y, hy, hyd⟩ := (mem_dots _ _).1 h
        have := (stE_some a3.ord).2 ⟨(mem_kidT a3.ord).1 hy, hyd⟩
        rw [hst3 hsu] at this
        cases this
      rw [show (!decide (s = u)) = true by simp [hsu], hasE_mem ((right_iff hB.ord).2 hB.leaf), elL_st hB.ord]
      refine ⟨e, ⟨e.dc, e.n, ByteArray.empty, 0⟩, ?_⟩
      rw [stE_join a3 hZ, stE_nil, hst2, seen_hasB hkrJ g6]
      simp [jnO, hne, hef]
  exact ⟨_, _, .mk [] [], _, _, J.1, J.2, _, _, _, rfl, hT1, hC1, hE, hT2, hC2, hE2, congrArg Prod.fst a2, congrArg Prod.snd a2, a1, h1, h2, hC4, if_pos hm4, b1, b2, b3, hgone, hlast, by omega, by omega, by omega, by omega, by omega, by omega, s4, s5, s7, by omega, s3, right_nums g1⟩
end Go.Proofs.YtmphgnjodangcaaGreat

namespace Go.Proofs.YtmphgnjodangcaaGreat
open Go.RowKit
set_option maxRecDepth 100000

theorem jaK_take {l : List Kn} {k : Nat} {x : Kn} (h : l[k]? = some x) (hk : jaK (l.take k) = true) : jaK (l.take (k + 1)) = caK x := by
  unfold jaK at *
  rw [List.take_add_one, h, List.all_append, hk]; simp
theorem jaK_bad {l : List Kn} {x : Kn} (h : x ∈ l) (hk : caK x = false) : jaK l = false := List.all_eq_false.2 ⟨x, h, by simp [hk]⟩
theorem jnL_take {l : List Kn} {k : Nat} {x : Kn} (h : l[k]? = some x) : jnL (l.take (k + 1)) = jn (jnL (l.take k)) x := by
  rw [List.take_add_one, h]; exact jnL_snoc _ _
theorem sum_take {α : Type} (f : α → Nat) : ∀ (l : List α) (k : Nat), ((l.take k).map f).sum ≤ (l.map f).sum
  | [], k => by simp
  | x :: l, 0 => by simp
  | x :: l, k + 1 => by have := sum_take f l k; simp only [List.take_succ_cons, List.map_cons, List.sum_cons]; omega
theorem sum_mem {α : Type} (f : α → Nat) : ∀ {l : List α} {x : α}, x ∈ l → f x ≤ (l.map f).sum
  | y :: l, x, h => by
    rcases List.mem_cons.1 h with rfl | h
    · simp
    · have := sum_mem f h; simp; omega
/-- What stands in a loop of JoinAll. -/
def JaIn (w wr : World) (x : Kn) : Prop :=
  ∃ ve vk vc, wr.heap[w.heap.size + 1]? = some (.cells #[ve, vk, vc] 31 (0, 0)) ∧ x.1.rda wr (fun b => w.heap.size + 2 ≤ b ∧ b < wr.heap.size) ve vk ∧ SlA wr (fun b => w.heap.size + 2 ≤ b ∧ b < wr.heap.size) 3 SpE vc x.2
set_option maxHeartbeats 4000000 in
theorem joinAll_any (l : List Kn) (vl : Value) (w : World) (h : SlP w w.heap.size 3 (CaE w w.heap.size) vl l) (hz1 : (l.map fun x => x.1.sz).sum ≤ 4000) (hz2 : (l.map fun x => x.2.length).sum ≤ 20000) :
    Calls Tryz.prog 30 #[vl] w (RetCE w (jaR l).1 (jaR l).2 (jaE l)) := by
  obtain ⟨A, m, rfl, c1, c2, c3⟩ := h
  unfold Big at c2
  have hb0 : Below w.heap.size w ((w.alloc (.cells #[.slice none 0 0, .slice none 0 0, .slice none 0 0] 31)).alloc (.cells #[.slice none 0 0, .slice none 0 0, .slice none 0 0] 31)) := ((Below.refl _ w).alloc (Nat.le_refl _) _).alloc (by simp) _
  have HSZ : Hid (∀ k, jaK (l.take k) = true → KOk (jnL (l.take k)) ∧ (jnL (l.take k)).1.sz ≤ 4000 ∧ (jnL (l.take k)).2.length ≤ 20000) := fun k hk => by
    have h1 := jaK_iff.1 hk
    have h2 := foldl_sz (l.take k) kn0 kn0_ok h1
    have h3 := sum_take (fun x : Kn => x.1.sz) l k
    have h4 := sum_take (fun x : Kn => x.2.length) l k
    have e1 : kn0.1.sz = 0 := rfl
    have e2 : kn0.2.length = 0 := rfl
    exact ⟨jnL_ok h1, by unfold jnL; omega, by unfold jnL; omega⟩
  have HSM : Hid (∀ x ∈ l, x.1.sz ≤ 4000 ∧ x.2.length ≤ 20000) := fun x hx => by
    have h3 := sum_mem (fun x : Kn => x.1.sz) hx
    have h4 := sum_mem (fun x : Kn => x.2.length) hx
    omega
  go_enter Tryz.func30, Tryz.ntmps30
  go_wp2_with fail
  go_loopw [11] (fun i wr => ∃ k : Nat, k ≤ l.length ∧ i = .int .i64 k ∧ Hid (jaK (l.take k) = true) ∧ JaIn w wr (jnL (l.take k)) ∧ wr.heap[w.heap.size]? = some (.cells #[.slice none 0 0, .slice none 0 0, .slice none 0 0] 31 (0, 0)) ∧ Below w.heap.size w wr) (fun i _ => l.length - (intOf i).toNat)
  case atStart =>
    refine ⟨0, Nat.zero_le _, rfl, by unfold Hid; simp [jaK], ⟨_, _, _, heap_new (by simp), rda_nil _ _, SlA.nil⟩, (heap_old (by simp)).trans (heap_new rfl), hb0⟩
  case round =>
    obtain ⟨k, hk, rfl, hall, ⟨ve, vk, vc, hG1, hrd, hsl⟩, hG0, hb⟩ := hrel
    have hsz := hb.size
    have hlt1 := lt_of_block hG1
    obtain ⟨hX, hX1, hX2⟩ := HSZ.out k hall.out
    obtain ⟨A3, n3, A4, n4, rfl, rfl⟩ := rda_shape hrd
    obtain ⟨A5, n5, rfl⟩ := hsl.shape
    have q0 := cell_cells (i := 0) hG1
    have q1 := cell_cells (i := 1) hG1
    have q2 := cell_cells (i := 2) hG1
    simp only [List.getElem?_toArray, List.getElem?_cons_zero, List.getElem?_cons_succ] at q0 q1 q2
    by_cases hlt : k < l.length
    · obtain ⟨⟨t, c⟩, hx⟩ : ∃ x, l[k]? = some x := ⟨_, List.getElem?_eq_getElem hlt⟩
      obtain ⟨b, off, rfl, hbB, hc⟩ := c3 (by rintro rfl; simp at hlt)
      obtain ⟨cs, ⟨xe, xk, xc, rfl, hrx, hsx⟩, _, hu⟩ := hc k _ hx
      simp only at hrx hsx
      obtain ⟨A6, n6, A7, n7, rfl, rfl⟩ := rd_shape hrx
      obtain ⟨A8, n8, rfl, _⟩ := id hsx
      have e0 : wr.cell? ⟨b, off + k * 3, none⟩ = some (.slice A6 t.es.length n6) := (hb.cell hbB).trans (hu 0 _ rfl)
      have e1 : wr.cell? ⟨b, off + k * 3 + 1, none⟩ = some (.slice A7 t.ks.length n7) := (hb.cell hbB).trans (hu 1 _ rfl)
      have e2 : wr.cell? ⟨b, off + k * 3 + 2, none⟩ = some (.slice A8 c.length n8) := (hb.cell hbB).trans (hu 2 _ rfl)
      have hmem := List.mem_of_getElem? hx
      obtain ⟨hs1, hs2⟩ := HSM.out _ hmem
      simp only at hs1 hs2
      have HTK := hid (jnL_take hx)
      have HJK := hid (jaK_take hx hall.out)
      have HBAD : Hid (caK (t, c) = false → jaE l = 1 ∧ jaR l = kn0) := fun h => by unfold jaE jaR; rw [jaK_bad hmem h]; exact ⟨rfl, rfl⟩
      have HXO := hid hX
      generalize hXe : jnL (l.take k) = X at *
      obtain ⟨XT, XC⟩ := X
      simp only at hX1 hX2 hrd hsl q0 q1 q2
      have hbA : Below wr.heap.size wr (wr.alloc (.cells #[.slice A6 t.es.length n6, .slice A7 t.ks.length n7, .slice A8 c.length n8] 31)) := (Below.refl _ wr).alloc (Nat.le_refl _) _
      have hbB' := hb.trans (hbA.mono hsz)
      have HRX := hid (rd_below hbB' hbB'.size _ _ _ hrx)
      have HSX : Hid (SlP (wr.alloc (.cells #[.slice A6 t.es.length n6, .slice A7 t.ks.length n7, .slice A8 c.length n8] 31)) (wr.alloc (.cells #[.slice A6 t.es.length n6, .slice A7 t.ks.length n7, .slice A8 c.length n8] 31)).heap.size 3 SpE (.slice A8 c.length n8) c) := hsx.imp hbB' hbB'.size fun _ _ _ h => h
      have HRD := hid (rda_rd hrd (fun b hb => hb.2) hbA)
      have HSL := hid (hsl.slp (fun b hb => hb.2) hbA)
      have hneb : b ≠ wr.heap.size := by omega
      have hne1 : w.heap.size + 1 ≠ wr.heap.size := by omega
      have hltb : b < wr.heap.size := by omega
      have HG0 := hid hG0
      have HG1 := hid hG1
      have HBW := hid hbB'
      clear hu hc c3 hx hmem hXe hrd hsl hrx hsx hG0 hG1 hbA hbB' hX
      have hjE : jnE XT t XC c = if caK (t, c) then 0 else 1 := by unfold jnE caK; rw [caR_iff.2 HXO.out]; rfl
      have HJE := hid hjE
      clear hjE
      go_wp2_with fail
      refine (cJoin_any XC c XT t _ _ _ _ _ _ _ HRD.out HRX.out HSL.out HSX.out hX1 hs1 hX2 hs2).mono ?_
      rw [HJE.out]
      cases hca : caK (t, c)
      · rintro e w1 ⟨ve1, vk1, vc1, rfl, hrd1, hsl1, hb1⟩
        obtain ⟨Av, nv, Aw, nw, rfl, rfl⟩ := rda_shape hrd1
        obtain ⟨Ac, nc, rfl⟩ := hsl1.shape
        obtain ⟨hE1, hE2⟩ := HBAD.out hca
        have HE1 := hid hE1
        have HE2 := hid hE2
        simp only [World.size_alloc] at hb1
        have hsz1 := hb1.size
        simp only [World.size_alloc] at hsz1
        have hG0' : w1.heap[w.heap.size]? = some (.cells #[.slice none 0 0, .slice none 0 0, .slice none 0 0] 31 (0, 0)) := (hb1.block _ (by omega)).trans ((heap_old (by omega)).trans HG0.out)
        have HG := hid hG0'
        have HBW2 := hid (HBW.out.trans (hb1.mono (by omega)))
        have k0 := cell_cells (i := 0) hG0'
        have k1 := cell_cells (i := 1) hG0'
        have k2 := cell_cells (i := 2) hG0'
        simp only [List.getElem?_toArray, List.getElem?_cons_zero, List.getElem?_cons_succ] at k0 k1 k2
        have z0 := cells_frz (i := 0) hG0'
        have z1 := cells_frz (i := 1) hG0'
        have z2 := cells_frz (i := 2) hG0'
        have hl0 : w.heap.size < w1.heap.size := by omega
        have hl0' : w.heap.size ≠ w1.heap.size := by omega
        clear hE1 hE2 hrd1 hsl1 hb1 hG0' hca
        go_wp2_with fail
        obtain ⟨r0, r1, r2, _⟩ := box3a HG.out (.slice none 0 0) (.slice none 0 0) (.slice none 0 0) (.cells #[.slice Av (jnT XT t XC c).es.length nv, .slice Aw (jnT XT t XC c).ks.length nw, .slice Ac (jnC XT t XC c).length nc] 31)
        have hBW := below_box3 HBW2.out (Nat.le_refl _) (by omega) (.slice none 0 0) (.slice none 0 0) (.slice none 0 0) (.cells #[.slice Av (jnT XT t XC c).es.length nv, .slice Aw (jnT XT t XC c).ks.length nw, .slice Ac (jnC XT t XC c).length nc] 31)
        refine bodyPost_ret (v := .tuple #[.agg #[.slice none 0 0, .slice none 0 0, .slice none 0 0], .int .i64 1]) (by simp [results, Tryz.results30, go_sem, r0, r1, r2]) rfl ⟨_, _, _, by rw [HE1.out], ?_, ?_, hBW⟩
        · rw [HE2.out]; exact rda_nil _ _
        · rw [HE2.out]; exact SlA.nil
      · have HCA := hid hca
        have hjj := jn_ok HXO.out (caK_iff.1 hca)
        simp only at hjj
        rw [hjj.2.1, hjj.2.2]
        rintro e w1 ⟨ve1, vk1, vc1, rfl, hrd1, hsl1, hb1⟩
        clear hjj hca
        have HTK' : Hid (jnL (l.take (k + 1)) = (jT XT t XC c, jC XC c)) := HTK.out
        have HJK' : Hid (jaK (l.take (k + 1)) = true) := HJK.out.trans HCA.out
        clear HTK HJK
        generalize jT XT t XC c = YT at *
        generalize jC XC c = YC at *
        obtain ⟨Av, nv, Aw, nw, rfl, rfl⟩ := rda_shape hrd1
        obtain ⟨Ac, nc, rfl⟩ := hsl1.shape
        simp only [World.size_alloc] at hb1 hrd1 hsl1
        have hsz1 := hb1.size
        simp only [World.size_alloc] at hsz1
        have hG1' : w1.heap[w.heap.size + 1]? = some (.cells #[.slice A3 XT.es.length n3, .slice A4 XT.ks.length n4, .slice A5 XC.length n5] 31 (0, 0)) := (hb1.block _ (by omega)).trans ((heap_old (by omega)).trans HG1.out)
        have hG0' : w1.heap[w.heap.size]? = some (.cells #[.slice none 0 0, .slice none 0 0, .slice none 0 0] 31 (0, 0)) := (hb1.block _ (by omega)).trans ((heap_old (by omega)).trans HG0.out)
        have HGX := hid hG1'
        have HGZ := hid hG0'
        have HBW2 := hid (HBW.out.trans (hb1.mono (by omega)))
        have HR1 := hid hrd1
        have HS1 := hid hsl1
        have k0 := cell_cells (i := 0) hG1'
        have k1 := cell_cells (i := 1) hG1'
        have k2 := cell_cells (i := 2) hG1'
        simp only [List.getElem?_toArray, List.getElem?_cons_zero, List.getElem?_cons_succ] at k0 k1 k2
        have z0 := cells_frz (i := 0) hG1'
        have z1 := cells_frz (i := 1) hG1'
        have z2 := cells_frz (i := 2) hG1'
        have hl0 : w.heap.size + 1 < w1.heap.size := by omega
        have hl0' : w.heap.size + 1 ≠ w1.heap.size := by omega
        have hl1' : w1.heap.size ≠ w.heap.size + 1 := by omega
        clear hrd1 hsl1 hb1 hG1' hG0' q0 q1 q2
        go_wp2_with fail
        obtain ⟨r0, r1, r2, hK, hS, hWW⟩ := box3a HGX.out (.slice Av YT.es.length nv) (.slice Aw YT.ks.length nw) (.slice Ac YC.length nc) (.cells #[.slice Av YT.es.length nv, .slice Aw YT.ks.length nw, .slice Ac YC.length nc] 31)
        go_roundw
        case rel =>
          refine ⟨k + 1, by omega, by go_num, HJK', ⟨.slice Av YT.es.length nv, .slice Aw YT.ks.length nw, .slice Ac YC.length nc, hWW, ?_, ?_⟩, (hK _ (by omega) (by omega)).trans HGZ.out, below_box3 HBW2.out (by omega) (by omega) _ _ _ _⟩
          · rw [HTK'.out]
            exact rda_up (fun b hb => hK b (by omega) hb.2) (fun b hb => ⟨by omega, by rw [hS]; omega⟩) _ _ _ HR1.out
          · rw [HTK'.out]
            exact HS1.out.up (fun b hb => hK b (by omega) hb.2) (fun b hb => ⟨by omega, by rw [hS]; omega⟩) (fun _ _ _ h => h)
        case measure => simp [intOf]; omega
    · obtain rfl : k = l.length := by omega
      rw [List.take_of_length_le (Nat.le_refl _)] at hrd hsl hall
      have HE : Hid (jaE l = 0) := by unfold Hid jaE; rw [hall.out]; rfl
      have HR : Hid (jaR l = jnL l) := by unfold Hid jaR; rw [hall.out]; rfl
      rw [List.take_of_length_le (Nat.le_refl _)] at q0 q1 q2 hG1
      have HRD := hid hrd
      have HSL := hid hsl
      have HG0 := hid hG0
      have HBW := hid hb
      have k0 := cell_cells (i := 0) hG0
      have k1 := cell_cells (i := 1) hG0
      have k2 := cell_cells (i := 2) hG0
      simp only [List.getElem?_toArray, List.getElem?_cons_zero, List.getElem?_cons_succ] at k0 k1 k2
      have z0 := cells_frz (i := 0) hG0
      have z1 := cells_frz (i := 1) hG0
      have z2 := cells_frz (i := 2) hG0
      generalize jnL l = X at *
      obtain ⟨XT, XC⟩ := X
      simp only at HRD HSL q0 q1 q2
      clear hrd hsl hG0 hG1 hX hX1 hX2
      go_wp2_with fail
      obtain ⟨r0, r1, r2, hK, hS⟩ := box3 HG0.out (.slice A3 XT.es.length n3) (.slice A4 XT.ks.length n4) (.slice A5 XC.length n5)
      have hBW := ((HBW.out.setCell (p := ⟨w.heap.size, 0, none⟩) (by simp) (.slice A3 XT.es.length n3)).setCell (p := ⟨w.heap.size, 1, none⟩) (by simp) (.slice A4 XT.ks.length n4)).setCell (p := ⟨w.heap.size, 2, none⟩) (by simp) (.slice A5 XC.length n5)
      refine bodyPost_ret (v := .tuple #[.agg #[.slice A3 XT.es.length n3, .slice A4 XT.ks.length n4, .slice A5 XC.length n5], .int .i64 0]) (by simp [results, Tryz.results30, go_sem, r0, r1, r2]) rfl ⟨_, _, _, by rw [HE.out], ?_, ?_, hBW⟩
      · rw [HR.out]
        exact rda_up (fun b hb => hK b (by omega)) (fun b hb => ⟨by omega, by rw [hS]; omega⟩) _ _ _ HRD.out
      · rw [HR.out]
        exact HSL.out.up (fun b hb => hK b (by omega)) (fun b hb => ⟨by omega, by rw [hS]; omega⟩) (fun _ _ _ h => h)
end Go.Proofs.YtmphgnjodangcaaGreat
