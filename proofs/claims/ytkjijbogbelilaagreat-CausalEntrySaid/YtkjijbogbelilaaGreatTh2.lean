/- What the laws need, part 2: The law CausalJoins answers true. No condition. tributaryref09.Leq. Condition: both right and not too big. -/
import Derived.Test.YtkjijbogbelilaaGreatTh1
namespace Go.Proofs.YtkjijbogbelilaaGreat
open Go.RowKit
set_option maxRecDepth 100000

theorem sml_all2 {x y : Kn} (h : ([x, y] : List Kn).all (fun x => sml9 x.1 x.2 40) = true) : (x.1.sz ≤ 40 ∧ x.2.length ≤ 40) ∧ (y.1.sz ≤ 40 ∧ y.2.length ≤ 40) := by
  simp only [List.all_cons, List.all_nil, Bool.and_true, Bool.and_eq_true] at h
  exact ⟨sml9_sz h.1, sml9_sz h.2⟩
theorem car_two {x y : Kn} {q : Bool} (h : ([x, y] : List Kn).all (fun x => caR x.1 x.2) = q) : (caR x.1 x.2 && caR y.1 y.2) = q := by simpa using h
theorem r9_join {x y : Kn} (hx : KOk x) (hy : KOk y) : buildL (r9L (x.1.lvs []) (y.1.lvs []) x.2 y.2) = (jn x y).1 := r9L_build hx.ord hy.ord hx.ap hy.ap hx.dep hy.dep
theorem cj_bad {a b : Tr} {ac bc : List Sp} (h : ([(a, ac), (b, bc)] : List Kn).all (fun x => caR x.1 x.2) = false) : ∃ (T : Tr) (C : List Sp), Hid (jnE a b ac bc = 1) ∧ Hid (jnT a b ac bc = T) ∧ Hid (jnC a b ac bc = C) ∧ Hid ((trEq T (.mk [] []) && decide (C = [])) = true) := by
  have h1 := car_two h
  simp only at h1
  refine ⟨_, _, ?_, rfl, rfl, ?_⟩
  · unfold Hid jnE; rw [h1]; rfl
  · unfold Hid jnT jnC; rw [h1]; simp [trEq]
theorem cj_good {a b : Tr} {ac bc : List Sp} (h : ([(a, ac), (b, bc)] : List Kn).all (fun x => caR x.1 x.2) = true) (z1 : a.sz ≤ 40) (z2 : ac.length ≤ 40) (z3 : b.sz ≤ 40) (z4 : bc.length ≤ 40) : ∃ (T : Tr) (C : List Sp), Hid (jnE a b ac bc = 0) ∧ Hid (jnT a b ac bc = T) ∧ Hid (jnC a b ac bc = C) ∧ Hid (buildL (r9L (a.lvs []) (b.lvs []) ac bc) = T) ∧ Hid (ctxBy ac bc 0 = C) ∧ Hid ((trEq T T && decide (C = C)) = true) ∧ Hid (SpsOk ac) ∧ Hid (SpsOk bc) ∧ T.sz ≤ 80 ∧ C.length ≤ 80 := by
  have h1 := car_two h
  rw [Bool.and_eq_true] at h1
  have ha : KOk (a, ac) := caR_iff.1 h1.1
  have hb : KOk (b, bc) := caR_iff.1 h1.2
  obtain ⟨j1, j2, j3⟩ := jn_ok ha hb
  have s := jn_sz ha hb
  simp only at s
  exact ⟨(jn (a, ac) (b, bc)).1, (jn (a, ac) (b, bc)).2, j1, j2, j3, r9_join ha hb, rfl, hid (by simp [trEq]), spsOk_apart ha.ap, spsOk_apart hb.ap, by omega, by omega⟩
set_option maxHeartbeats 4000000 in
theorem lawCJ_any (a : Tr) (ac : List Sp) (b : Tr) (bc : List Sp) (w : World) (ve0 vk0 vc0 ve1 vk1 vc1 : Value) (h0 : a.rd w w.heap.size ve0 vk0) (hc0 : SlP w w.heap.size 3 SpE vc0 ac) (h1 : b.rd w w.heap.size ve1 vk1) (hc1 : SlP w w.heap.size 3 SpE vc1 bc) :
    Calls Tryz.prog 3 #[.agg #[ve0, vk0, vc0], .agg #[ve1, vk1, vc1]] w fun e w' => e = .returned (.bool true) ∧ Below w.heap.size w w' := by
  have HC0 : Hid (∀ w', Below w.heap.size w w' → a.rd w' w'.heap.size ve0 vk0) := fun w' hb => rd_below hb hb.size _ _ _ h0
  have HD0 : Hid (∀ w', Below w.heap.size w w' → SlP w' w'.heap.size 3 SpE vc0 ac) := fun w' hb => hc0.imp hb hb.size fun _ _ _ h => h
  obtain ⟨A0, n0, B0, m0, rfl, rfl⟩ := rd_shape h0
  obtain ⟨D0, k0, rfl, _⟩ := hc0
  clear h0
  have HC1 : Hid (∀ w', Below w.heap.size w w' → b.rd w' w'.heap.size ve1 vk1) := fun w' hb => rd_below hb hb.size _ _ _ h1
  have HD1 : Hid (∀ w', Below w.heap.size w w' → SlP w' w'.heap.size 3 SpE vc1 bc) := fun w' hb => hc1.imp hb hb.size fun _ _ _ h => h
  obtain ⟨A1, n1, B1, m1, rfl, rfl⟩ := rd_shape h1
  obtain ⟨D1, k1, rfl, _⟩ := hc1
  clear h1
  have HX0 : Hid (∀ W, Below (w.heap.size + 2) ((w.alloc (.cells #[.slice A0 a.es.length n0, .slice B0 a.ks.length m0, .slice D0 ac.length k0] 29)).alloc (.cells #[.slice A1 b.es.length n1, .slice B1 b.ks.length m1, .slice D1 bc.length k1] 29)) W → (Below w.heap.size w W ∧ w.heap.size + 2 ≤ (W).heap.size ∧ a.rd W (W).heap.size (.slice A0 a.es.length n0) (.slice B0 a.ks.length m0) ∧ SlP W (W).heap.size 3 SpE (.slice D0 ac.length k0) ac ∧ b.rd W (W).heap.size (.slice A1 b.es.length n1) (.slice B1 b.ks.length m1) ∧ SlP W (W).heap.size 3 SpE (.slice D1 bc.length k1) bc ∧ (W).cell? ⟨w.heap.size, 0, none⟩ = some (.slice A0 a.es.length n0) ∧ (W).cell? ⟨w.heap.size, 1, none⟩ = some (.slice B0 a.ks.length m0) ∧ (W).cell? ⟨w.heap.size, 2, none⟩ = some (.slice D0 ac.length k0) ∧ (W).cell? ⟨(w.heap.size + 1), 0, none⟩ = some (.slice A1 b.es.length n1) ∧ (W).cell? ⟨(w.heap.size + 1), 1, none⟩ = some (.slice B1 b.ks.length m1) ∧ (W).cell? ⟨(w.heap.size + 1), 2, none⟩ = some (.slice D1 bc.length k1))) := fun W hW => by
    have g0 : W.heap[w.heap.size]? = some (.cells #[.slice A0 a.es.length n0, .slice B0 a.ks.length m0, .slice D0 ac.length k0] 29 (0, 0)) := (hW.block _ (by omega)).trans ((heap_old (by simp <;> omega)).trans (heap_new rfl))
    have g1 : W.heap[(w.heap.size + 1)]? = some (.cells #[.slice A1 b.es.length n1, .slice B1 b.ks.length m1, .slice D1 bc.length k1] 29 (0, 0)) := (hW.block _ (by omega)).trans (heap_new (by simp))
    have hB : Below w.heap.size w W := (((Below.refl _ w).alloc (Nat.le_refl _) _).alloc (by simp <;> omega) _).trans (hW.mono (by omega))
    exact ⟨hB, by have := hW.size; simpa using this, HC0.out _ hB, HD0.out _ hB, HC1.out _ hB, HD1.out _ hB, cell_cells (i := 0) g0, cell_cells (i := 1) g0, cell_cells (i := 2) g0, cell_cells (i := 0) g1, cell_cells (i := 1) g1, cell_cells (i := 2) g1⟩
  have hnb1 : w.heap.size + 1 ≠ w.heap.size := by omega
  go_enter Tryz.func3, Tryz.ntmps3
  obtain ⟨SM, HSM⟩ : ∃ q : Bool, Hid (([(a, ac), (b, bc)] : List Kn).all (fun x => sml9 x.1 x.2 40) = q) := ⟨_, rfl⟩
  obtain ⟨RM, HRM⟩ : ∃ q : Bool, Hid (([(a, ac), (b, bc)] : List Kn).all (fun x => caR x.1 x.2) = q) := ⟨_, rfl⟩
  go_wp2_with fail
  obtain ⟨hB, hs, rt0, rc0, rt1, rc1, c00, c01, c02, c10, c11, c12⟩ := HX0.out _ (Below.refl _ _)
  refine (awake09_any _).mono ?_
  rintro e w1 ⟨rfl, hb⟩
  have hbk1 : Hid (Below (w.heap.size + 2) ((w.alloc (.cells #[.slice A0 a.es.length n0, .slice B0 a.ks.length m0, .slice D0 ac.length k0] 29)).alloc (.cells #[.slice A1 b.es.length n1, .slice B1 b.ks.length m1, .slice D1 bc.length k1] 29)) w1) := hid (hb.mono (by first | omega | (simp; done) | (simp; omega)))
  clear hb
  clear hB hs rt0 rc0 rt1 rc1 c00 c01 c02 c10 c11 c12
  obtain ⟨hB, hs, rt0, rc0, rt1, rc1, c00, c01, c02, c10, c11, c12⟩ := HX0.out _ hbk1.out
  go_wp2_with fail
  have hsl_le : (w.heap.size + 2) ≤ (w1).heap.size := (by first | omega | (simp; done) | (simp; omega))
  clear hB hs rt0 rc0 rt1 rc1 c00 c01 c02 c10 c11 c12
  obtain ⟨hB, hs, rt0, rc0, rt1, rc1, c00, c01, c02, c10, c11, c12⟩ := HX0.out _ (hbk1.out.alloc hsl_le (.cells #[.slice A0 a.es.length n0, .slice B0 a.ks.length m0, .slice D0 ac.length k0, .slice A1 b.es.length n1, .slice B1 b.ks.length m1, .slice D1 bc.length k1] 29))
  refine (small09_any [(a, ac), (b, bc)] _ _ (slp2 (heap_new rfl) (kn_at rt0 rc0) (kn_at rt1 rc1) (by simp))).mono ?_
  rw [HSM.out]
  rintro e w2 ⟨rfl, hb⟩
  have hbk2 : Hid (Below (w.heap.size + 2) ((w.alloc (.cells #[.slice A0 a.es.length n0, .slice B0 a.ks.length m0, .slice D0 ac.length k0] 29)).alloc (.cells #[.slice A1 b.es.length n1, .slice B1 b.ks.length m1, .slice D1 bc.length k1] 29)) w2) := hid ((hbk1.out.alloc hsl_le (.cells #[.slice A0 a.es.length n0, .slice B0 a.ks.length m0, .slice D0 ac.length k0, .slice A1 b.es.length n1, .slice B1 b.ks.length m1, .slice D1 bc.length k1] 29)).trans (hb.mono (by first | omega | (simp; done) | (simp; omega))))
  clear hb
  clear hB hs rt0 rc0 rt1 rc1 c00 c01 c02 c10 c11 c12
  obtain ⟨hB, hs, rt0, rc0, rt1, rc1, c00, c01, c02, c10, c11, c12⟩ := HX0.out _ hbk2.out
  cases SM
  · skip
    go_wp2_with fail
    refine (awake09_any _).mono ?_
    rintro e w3 ⟨rfl, hb⟩
    have hbk3 : Hid (Below (w.heap.size + 2) ((w.alloc (.cells #[.slice A0 a.es.length n0, .slice B0 a.ks.length m0, .slice D0 ac.length k0] 29)).alloc (.cells #[.slice A1 b.es.length n1, .slice B1 b.ks.length m1, .slice D1 bc.length k1] 29)) w3) := hid (hbk2.out.trans (hb.mono (by first | omega | (simp; done) | (simp; omega))))
    clear hb
    clear hB hs rt0 rc0 rt1 rc1 c00 c01 c02 c10 c11 c12
    obtain ⟨hB, hs, rt0, rc0, rt1, rc1, c00, c01, c02, c10, c11, c12⟩ := HX0.out _ hbk3.out
    go_wp2_with fail
    go_ret
    exact ⟨rfl, hB⟩
  obtain ⟨⟨z1, z2⟩, z3, z4⟩ := sml_all2 HSM.out
  simp only at z1 z2 z3 z4
  cases RM
  · obtain ⟨T, C, HJE, HJT, HJC, HSE⟩ := cj_bad HRM.out
    go_wp2_with fail
    refine (cJoin_any ac bc a b _ _ _ _ _ _ _ rt0 rt1 rc0 rc1 (by omega) (by omega) (by omega) (by omega)).mono ?_
    rw [HJE.out, HJT.out, HJC.out]
    rintro e w3 ⟨xe3, xk3, xc3, rfl, hrd3, hsl3, hb⟩
    obtain ⟨A3x, n3x, B3x, m3x, rfl, rfl⟩ := rda_shape hrd3
    obtain ⟨D3x, k3x, rfl⟩ := hsl3.shape
    have hbk3 : Hid (Below (w.heap.size + 2) ((w.alloc (.cells #[.slice A0 a.es.length n0, .slice B0 a.ks.length m0, .slice D0 ac.length k0] 29)).alloc (.cells #[.slice A1 b.es.length n1, .slice B1 b.ks.length m1, .slice D1 bc.length k1] 29)) w3) := hid (hbk2.out.trans (hb.mono (by first | omega | (simp; done) | (simp; omega))))
    clear hb
    clear hB hs rt0 rc0 rt1 rc1 c00 c01 c02 c10 c11 c12
    obtain ⟨hB, hs, rt0, rc0, rt1, rc1, c00, c01, c02, c10, c11, c12⟩ := HX0.out _ hbk3.out
    have hlt365 : w.heap.size < w3.heap.size := by omega
    have hne365 : w.heap.size ≠ w3.heap.size := by omega
    have hnr365 : w3.heap.size ≠ w.heap.size := by omega
    have hlt38 : (w.heap.size + 1) < w3.heap.size := by omega
    have hne38 : (w.heap.size + 1) ≠ w3.heap.size := by omega
    have hnr38 : w3.heap.size ≠ (w.heap.size + 1) := by omega
    have HX1 : Hid (∀ W, Below (w3.heap.size + 1) (w3.alloc (.cells #[.slice A3x T.es.length n3x, .slice B3x T.ks.length m3x, .slice D3x C.length k3x] 29)) W → (w3.heap.size + 1 ≤ (W).heap.size ∧ T.rd W (W).heap.size (.slice A3x T.es.length n3x) (.slice B3x T.ks.length m3x) ∧ SlP W (W).heap.size 3 SpE (.slice D3x C.length k3x) C ∧ (W).cell? ⟨w3.heap.size, 0, none⟩ = some (.slice A3x T.es.length n3x) ∧ (W).cell? ⟨w3.heap.size, 1, none⟩ = some (.slice B3x T.ks.length m3x) ∧ (W).cell? ⟨w3.heap.size, 2, none⟩ = some (.slice D3x C.length k3x) ∧ Below w.heap.size w W ∧ w.heap.size + 2 ≤ (W).heap.size ∧ a.rd W (W).heap.size (.slice A0 a.es.length n0) (.slice B0 a.ks.length m0) ∧ SlP W (W).heap.size 3 SpE (.slice D0 ac.length k0) ac ∧ b.rd W (W).heap.size (.slice A1 b.es.length n1) (.slice B1 b.ks.length m1) ∧ SlP W (W).heap.size 3 SpE (.slice D1 bc.length k1) bc ∧ (W).cell? ⟨w.heap.size, 0, none⟩ = some (.slice A0 a.es.length n0) ∧ (W).cell? ⟨w.heap.size, 1, none⟩ = some (.slice B0 a.ks.length m0) ∧ (W).cell? ⟨w.heap.size, 2, none⟩ = some (.slice D0 ac.length k0) ∧ (W).cell? ⟨(w.heap.size + 1), 0, none⟩ = some (.slice A1 b.es.length n1) ∧ (W).cell? ⟨(w.heap.size + 1), 1, none⟩ = some (.slice B1 b.ks.length m1) ∧ (W).cell? ⟨(w.heap.size + 1), 2, none⟩ = some (.slice D1 bc.length k1))) := fun W hW => by
      have g0 := (hW.block w3.heap.size (by omega)).trans (heap_new rfl)
      have hB : Below w3.heap.size w3 W := ((Below.refl _ w3).alloc (Nat.le_refl _) _).trans (hW.mono (by omega))
      exact ⟨by have := hW.size; simpa using this, rda_rd hrd3 (fun b hb => hb.2) hB, hsl3.slp (fun b hb => hb.2) hB, cell_cells (i := 0) g0, cell_cells (i := 1) g0, cell_cells (i := 2) g0, HX0.out W (hbk3.out.trans (hB.mono (by omega)))⟩
    clear hrd3 hsl3
    go_wp2_with fail
    clear hB hs rt0 rc0 rt1 rc1 c00 c01 c02 c10 c11 c12
    obtain ⟨hs_x, rt_x, rc_x, c0_x, c1_x, c2_x, hB, hs, rt0, rc0, rt1, rc1, c00, c01, c02, c10, c11, c12⟩ := HX1.out _ (Below.refl _ _)
    have hsl_le : (w3.heap.size + 1) ≤ ((w3.alloc (.cells #[.slice A3x T.es.length n3x, .slice B3x T.ks.length m3x, .slice D3x C.length k3x] 29))).heap.size := (by first | omega | (simp; done) | (simp; omega))
    clear hs_x rt_x rc_x c0_x c1_x c2_x hB hs rt0 rc0 rt1 rc1 c00 c01 c02 c10 c11 c12
    obtain ⟨hs_x, rt_x, rc_x, c0_x, c1_x, c2_x, hB, hs, rt0, rc0, rt1, rc1, c00, c01, c02, c10, c11, c12⟩ := HX1.out _ ((Below.refl _ _).alloc hsl_le (.cells #[.slice A0 a.es.length n0, .slice B0 a.ks.length m0, .slice D0 ac.length k0, .slice A1 b.es.length n1, .slice B1 b.ks.length m1, .slice D1 bc.length k1] 29))
    refine (right09_any [(a, ac), (b, bc)] _ _ (slp2 (heap_new (by simp)) (kn_at rt0 rc0) (kn_at rt1 rc1) (by simp)) (fun x hx => by simp at hx; rcases hx with rfl | rfl <;> exact ⟨by simp only; omega, by simp only; omega⟩)).mono ?_
    rw [HRM.out]
    rintro e w4 ⟨rfl, hb⟩
    have hbk4 : Hid (Below (w3.heap.size + 1) (w3.alloc (.cells #[.slice A3x T.es.length n3x, .slice B3x T.ks.length m3x, .slice D3x C.length k3x] 29)) w4) := hid (((Below.refl _ _).alloc hsl_le (.cells #[.slice A0 a.es.length n0, .slice B0 a.ks.length m0, .slice D0 ac.length k0, .slice A1 b.es.length n1, .slice B1 b.ks.length m1, .slice D1 bc.length k1] 29)).trans (hb.mono (by first | omega | (simp; done) | (simp; omega))))
    clear hb
    clear hs_x rt_x rc_x c0_x c1_x c2_x hB hs rt0 rc0 rt1 rc1 c00 c01 c02 c10 c11 c12
    obtain ⟨hs_x, rt_x, rc_x, c0_x, c1_x, c2_x, hB, hs, rt0, rc0, rt1, rc1, c00, c01, c02, c10, c11, c12⟩ := HX1.out _ hbk4.out
    go_wp2_with fail
    refine (r09same_any T (.mk [] []) C [] _ _ _ _ _ _ _ rt_x rd_empty rc_x SlP.nil).mono ?_
    rw [HSE.out]
    rintro e w5 ⟨rfl, hb⟩
    have hbk5 : Hid (Below (w3.heap.size + 1) (w3.alloc (.cells #[.slice A3x T.es.length n3x, .slice B3x T.ks.length m3x, .slice D3x C.length k3x] 29)) w5) := hid (hbk4.out.trans (hb.mono (by first | omega | (simp; done) | (simp; omega))))
    clear hb
    clear hs_x rt_x rc_x c0_x c1_x c2_x hB hs rt0 rc0 rt1 rc1 c00 c01 c02 c10 c11 c12
    obtain ⟨hs_x, rt_x, rc_x, c0_x, c1_x, c2_x, hB, hs, rt0, rc0, rt1, rc1, c00, c01, c02, c10, c11, c12⟩ := HX1.out _ hbk5.out
    go_wp2_with fail
    go_ret
    exact ⟨rfl, hB⟩
  · obtain ⟨T, C, HJE, HJT, HJC, HBL, HBC, HSE, HO1, HO2, v1, v2⟩ := cj_good HRM.out z1 z2 z3 z4
    go_wp2_with fail
    refine (cJoin_any ac bc a b _ _ _ _ _ _ _ rt0 rt1 rc0 rc1 (by omega) (by omega) (by omega) (by omega)).mono ?_
    rw [HJE.out, HJT.out, HJC.out]
    rintro e w3 ⟨xe3, xk3, xc3, rfl, hrd3, hsl3, hb⟩
    obtain ⟨A3x, n3x, B3x, m3x, rfl, rfl⟩ := rda_shape hrd3
    obtain ⟨D3x, k3x, rfl⟩ := hsl3.shape
    have hbk3 : Hid (Below (w.heap.size + 2) ((w.alloc (.cells #[.slice A0 a.es.length n0, .slice B0 a.ks.length m0, .slice D0 ac.length k0] 29)).alloc (.cells #[.slice A1 b.es.length n1, .slice B1 b.ks.length m1, .slice D1 bc.length k1] 29)) w3) := hid (hbk2.out.trans (hb.mono (by first | omega | (simp; done) | (simp; omega))))
    clear hb
    clear hB hs rt0 rc0 rt1 rc1 c00 c01 c02 c10 c11 c12
    obtain ⟨hB, hs, rt0, rc0, rt1, rc1, c00, c01, c02, c10, c11, c12⟩ := HX0.out _ hbk3.out
    have hlt365 : w.heap.size < w3.heap.size := by omega
    have hne365 : w.heap.size ≠ w3.heap.size := by omega
    have hnr365 : w3.heap.size ≠ w.heap.size := by omega
    have hlt38 : (w.heap.size + 1) < w3.heap.size := by omega
    have hne38 : (w.heap.size + 1) ≠ w3.heap.size := by omega
    have hnr38 : w3.heap.size ≠ (w.heap.size + 1) := by omega
    have HX1 : Hid (∀ W, Below (w3.heap.size + 1) (w3.alloc (.cells #[.slice A3x T.es.length n3x, .slice B3x T.ks.length m3x, .slice D3x C.length k3x] 29)) W → (w3.heap.size + 1 ≤ (W).heap.size ∧ T.rd W (W).heap.size (.slice A3x T.es.length n3x) (.slice B3x T.ks.length m3x) ∧ SlP W (W).heap.size 3 SpE (.slice D3x C.length k3x) C ∧ (W).cell? ⟨w3.heap.size, 0, none⟩ = some (.slice A3x T.es.length n3x) ∧ (W).cell? ⟨w3.heap.size, 1, none⟩ = some (.slice B3x T.ks.length m3x) ∧ (W).cell? ⟨w3.heap.size, 2, none⟩ = some (.slice D3x C.length k3x) ∧ Below w.heap.size w W ∧ w.heap.size + 2 ≤ (W).heap.size ∧ a.rd W (W).heap.size (.slice A0 a.es.length n0) (.slice B0 a.ks.length m0) ∧ SlP W (W).heap.size 3 SpE (.slice D0 ac.length k0) ac ∧ b.rd W (W).heap.size (.slice A1 b.es.length n1) (.slice B1 b.ks.length m1) ∧ SlP W (W).heap.size 3 SpE (.slice D1 bc.length k1) bc ∧ (W).cell? ⟨w.heap.size, 0, none⟩ = some (.slice A0 a.es.length n0) ∧ (W).cell? ⟨w.heap.size, 1, none⟩ = some (.slice B0 a.ks.length m0) ∧ (W).cell? ⟨w.heap.size, 2, none⟩ = some (.slice D0 ac.length k0) ∧ (W).cell? ⟨(w.heap.size + 1), 0, none⟩ = some (.slice A1 b.es.length n1) ∧ (W).cell? ⟨(w.heap.size + 1), 1, none⟩ = some (.slice B1 b.ks.length m1) ∧ (W).cell? ⟨(w.heap.size + 1), 2, none⟩ = some (.slice D1 bc.length k1))) := fun W hW => by
      have g0 := (hW.block w3.heap.size (by omega)).trans (heap_new rfl)
      have hB : Below w3.heap.size w3 W := ((Below.refl _ w3).alloc (Nat.le_refl _) _).trans (hW.mono (by omega))
      exact ⟨by have := hW.size; simpa using this, rda_rd hrd3 (fun b hb => hb.2) hB, hsl3.slp (fun b hb => hb.2) hB, cell_cells (i := 0) g0, cell_cells (i := 1) g0, cell_cells (i := 2) g0, HX0.out W (hbk3.out.trans (hB.mono (by omega)))⟩
    clear hrd3 hsl3
    go_wp2_with fail
    clear hB hs rt0 rc0 rt1 rc1 c00 c01 c02 c10 c11 c12
    obtain ⟨hs_x, rt_x, rc_x, c0_x, c1_x, c2_x, hB, hs, rt0, rc0, rt1, rc1, c00, c01, c02, c10, c11, c12⟩ := HX1.out _ (Below.refl _ _)
    have hsl_le : (w3.heap.size + 1) ≤ ((w3.alloc (.cells #[.slice A3x T.es.length n3x, .slice B3x T.ks.length m3x, .slice D3x C.length k3x] 29))).heap.size := (by first | omega | (simp; done) | (simp; omega))
    clear hs_x rt_x rc_x c0_x c1_x c2_x hB hs rt0 rc0 rt1 rc1 c00 c01 c02 c10 c11 c12
    obtain ⟨hs_x, rt_x, rc_x, c0_x, c1_x, c2_x, hB, hs, rt0, rc0, rt1, rc1, c00, c01, c02, c10, c11, c12⟩ := HX1.out _ ((Below.refl _ _).alloc hsl_le (.cells #[.slice A0 a.es.length n0, .slice B0 a.ks.length m0, .slice D0 ac.length k0, .slice A1 b.es.length n1, .slice B1 b.ks.length m1, .slice D1 bc.length k1] 29))
    refine (right09_any [(a, ac), (b, bc)] _ _ (slp2 (heap_new (by simp)) (kn_at rt0 rc0) (kn_at rt1 rc1) (by simp)) (fun x hx => by simp at hx; rcases hx with rfl | rfl <;> exact ⟨by simp only; omega, by simp only; omega⟩)).mono ?_
    rw [HRM.out]
    rintro e w4 ⟨rfl, hb⟩
    have hbk4 : Hid (Below (w3.heap.size + 1) (w3.alloc (.cells #[.slice A3x T.es.length n3x, .slice B3x T.ks.length m3x, .slice D3x C.length k3x] 29)) w4) := hid (((Below.refl _ _).alloc hsl_le (.cells #[.slice A0 a.es.length n0, .slice B0 a.ks.length m0, .slice D0 ac.length k0, .slice A1 b.es.length n1, .slice B1 b.ks.length m1, .slice D1 bc.length k1] 29)).trans (hb.mono (by first | omega | (simp; done) | (simp; omega))))
    clear hb
    clear hs_x rt_x rc_x c0_x c1_x c2_x hB hs rt0 rc0 rt1 rc1 c00 c01 c02 c10 c11 c12
    obtain ⟨hs_x, rt_x, rc_x, c0_x, c1_x, c2_x, hB, hs, rt0, rc0, rt1, rc1, c00, c01, c02, c10, c11, c12⟩ := HX1.out _ hbk4.out
    go_upto_region 6 with (fail)
    have HK1 : Hid (∀ W, Below (w3.heap.size + 1) (w3.alloc (.cells #[.slice A3x T.es.length n3x, .slice B3x T.ks.length m3x, .slice D3x C.length k3x] 29)) W → ((W).cell? ⟨w3.heap.size, 0, none⟩ = some (.slice A3x T.es.length n3x) ∧ (W).cell? ⟨w3.heap.size, 1, none⟩ = some (.slice B3x T.ks.length m3x) ∧ (W).cell? ⟨w3.heap.size, 2, none⟩ = some (.slice D3x C.length k3x) ∧ (W).cell? ⟨w.heap.size, 0, none⟩ = some (.slice A0 a.es.length n0) ∧ (W).cell? ⟨w.heap.size, 1, none⟩ = some (.slice B0 a.ks.length m0) ∧ (W).cell? ⟨w.heap.size, 2, none⟩ = some (.slice D0 ac.length k0) ∧ (W).cell? ⟨(w.heap.size + 1), 0, none⟩ = some (.slice A1 b.es.length n1) ∧ (W).cell? ⟨(w.heap.size + 1), 1, none⟩ = some (.slice B1 b.ks.length m1) ∧ (W).cell? ⟨(w.heap.size + 1), 2, none⟩ = some (.slice D1 bc.length k1))) := fun W hW => by
      obtain ⟨_, _, _, z_c0_x, z_c1_x, z_c2_x, _, _, _, _, _, _, z_c00, z_c01, z_c02, z_c10, z_c11, z_c12⟩ := HX1.out W hW
      exact ⟨z_c0_x, z_c1_x, z_c2_x, z_c00, z_c01, z_c02, z_c10, z_c11, z_c12⟩
    have Hrt_x_1 : Hid (∀ W, Below (w3.heap.size + 1) (w3.alloc (.cells #[.slice A3x T.es.length n3x, .slice B3x T.ks.length m3x, .slice D3x C.length k3x] 29)) W → T.rd W (W).heap.size (.slice A3x T.es.length n3x) (.slice B3x T.ks.length m3x)) := fun W hW => by
      obtain ⟨_, z, _, _, _, _, _, _, _, _, _, _, _, _, _, _, _, _⟩ := HX1.out W hW
      exact z
    have Hrc_x_1 : Hid (∀ W, Below (w3.heap.size + 1) (w3.alloc (.cells #[.slice A3x T.es.length n3x, .slice B3x T.ks.length m3x, .slice D3x C.length k3x] 29)) W → SlP W (W).heap.size 3 SpE (.slice D3x C.length k3x) C) := fun W hW => by
      obtain ⟨_, _, z, _, _, _, _, _, _, _, _, _, _, _, _, _, _, _⟩ := HX1.out W hW
      exact z
    have Hrt0_1 : Hid (∀ W, Below (w3.heap.size + 1) (w3.alloc (.cells #[.slice A3x T.es.length n3x, .slice B3x T.ks.length m3x, .slice D3x C.length k3x] 29)) W → a.rd W (W).heap.size (.slice A0 a.es.length n0) (.slice B0 a.ks.length m0)) := fun W hW => by
      obtain ⟨_, _, _, _, _, _, _, _, z, _, _, _, _, _, _, _, _, _⟩ := HX1.out W hW
      exact z
    have Hrc0_1 : Hid (∀ W, Below (w3.heap.size + 1) (w3.alloc (.cells #[.slice A3x T.es.length n3x, .slice B3x T.ks.length m3x, .slice D3x C.length k3x] 29)) W → SlP W (W).heap.size 3 SpE (.slice D0 ac.length k0) ac) := fun W hW => by
      obtain ⟨_, _, _, _, _, _, _, _, _, z, _, _, _, _, _, _, _, _⟩ := HX1.out W hW
      exact z
    have Hrt1_1 : Hid (∀ W, Below (w3.heap.size + 1) (w3.alloc (.cells #[.slice A3x T.es.length n3x, .slice B3x T.ks.length m3x, .slice D3x C.length k3x] 29)) W → b.rd W (W).heap.size (.slice A1 b.es.length n1) (.slice B1 b.ks.length m1)) := fun W hW => by
      obtain ⟨_, _, _, _, _, _, _, _, _, _, z, _, _, _, _, _, _, _⟩ := HX1.out W hW
      exact z
    have Hrc1_1 : Hid (∀ W, Below (w3.heap.size + 1) (w3.alloc (.cells #[.slice A3x T.es.length n3x, .slice B3x T.ks.length m3x, .slice D3x C.length k3x] 29)) W → SlP W (W).heap.size 3 SpE (.slice D1 bc.length k1) bc) := fun W hW => by
      obtain ⟨_, _, _, _, _, _, _, _, _, _, _, z, _, _, _, _, _, _⟩ := HX1.out W hW
      exact z
    have HS_1 : Hid (∀ W, Below (w3.heap.size + 1) (w3.alloc (.cells #[.slice A3x T.es.length n3x, .slice B3x T.ks.length m3x, .slice D3x C.length k3x] 29)) W → (w3.heap.size + 1) ≤ W.heap.size) := fun W hW => by
      have := hW.size
      first | omega | (simp at this; omega)
    have hsb1 := HS_1.out _ hbk4.out
    clear rt_x rc_x hB rt0 rc0 rt1 rc1
    go_region_held3 (fun W => (W).cell? ⟨w3.heap.size, 0, none⟩ = some (.slice A3x T.es.length n3x) ∧ (W).cell? ⟨w3.heap.size, 1, none⟩ = some (.slice B3x T.ks.length m3x) ∧ (W).cell? ⟨w3.heap.size, 2, none⟩ = some (.slice D3x C.length k3x) ∧ (W).cell? ⟨w.heap.size, 0, none⟩ = some (.slice A0 a.es.length n0) ∧ (W).cell? ⟨w.heap.size, 1, none⟩ = some (.slice B0 a.ks.length m0) ∧ (W).cell? ⟨w.heap.size, 2, none⟩ = some (.slice D0 ac.length k0) ∧ (W).cell? ⟨(w.heap.size + 1), 0, none⟩ = some (.slice A1 b.es.length n1) ∧ (W).cell? ⟨(w.heap.size + 1), 1, none⟩ = some (.slice B1 b.ks.length m1) ∧ (W).cell? ⟨(w.heap.size + 1), 2, none⟩ = some (.slice D1 bc.length k1))
      (first | go_keep | exact HK1.out _ hbr6.out | exact HK1.out _ (hbr6.out.trans (by go_grown)) | exact HK1.out _ hbr5.out | exact HK1.out _ (hbr5.out.trans (by go_grown)) | exact HK1.out _ (((hbr6.out.setCell (by first | (simp; done) | (simp; omega)) _).setCell (by first | (simp; done) | (simp; omega)) _).setCell (by first | (simp; done) | (simp; omega)) _) | exact HK1.out _ (hbk4.out.trans (by go_grown)) | fail)
      (first
        | (go_at_call 27; go_loud ((refine (r09same_any T T C C _ _ _ _ _ _ _ (Hrt_x_1.out _ (hbr5.out.trans (by go_grown))) (HRr.out _ (by go_grown)) (Hrc_x_1.out _ (hbr5.out.trans (by go_grown))) (HLr.out _ (by go_grown))).mono ?_); rw [show (trEq T T && decide (C = C)) = true from (by simp [trEq])]; rintro e w6 ⟨rfl, hb⟩; have hbr6 : Hid (Below (w3.heap.size + 1) (w3.alloc (.cells #[.slice A3x T.es.length n3x, .slice B3x T.ks.length m3x, .slice D3x C.length k3x] 29)) w6) := hid (Below.trans (hbr5.out.trans (by go_grown)) (hb.mono (by first | omega | (simp; done) | (simp; omega)))); have hsr6 := HS_1.out _ hbr6.out; have hch5_6 : Hid (Below w5.heap.size w5 w6) := hid (Below.trans (by go_grown) (hb.mono (by first | omega | (simp; done) | (simp; omega)))); clear hb))
        | (go_at_call 28; go_loud ((refine (r09join_any ac bc a b _ _ _ _ _ _ _ (Hrt0_1.out _ (hbk4.out.trans (by go_grown))) (Hrt1_1.out _ (hbk4.out.trans (by go_grown))) (Hrc0_1.out _ (hbk4.out.trans (by go_grown))) (Hrc1_1.out _ (hbk4.out.trans (by go_grown))) (by omega) (by omega) HO1.out HO2.out (by omega) (by omega)).mono ?_); rw [HBL.out, HBC.out]; rintro e w5 ⟨xe5, xk5, xc5, rfl, hrd5, hsl5, hb⟩; have hbr5 : Hid (Below (w3.heap.size + 1) (w3.alloc (.cells #[.slice A3x T.es.length n3x, .slice B3x T.ks.length m3x, .slice D3x C.length k3x] 29)) w5) := hid (Below.trans (hbk4.out.trans (by go_grown)) (hb.mono (by first | omega | (simp; done) | (simp; omega)))); have hsr5 := HS_1.out _ hbr5.out; obtain ⟨Ar5, nr5, Br5, mr5, hv1, hv2⟩ := rda_shape hrd5; subst hv1; subst hv2; obtain ⟨Dr5, kr5, hv3⟩ := hsl5.shape; subst hv3; have HR5 := hid hrd5; have HL5 := hid hsl5; clear hrd5 hsl5; have HRr : Hid (∀ W, Below w5.heap.size w5 W → T.rd W W.heap.size (.slice Ar5 T.es.length nr5) (.slice Br5 T.ks.length mr5)) := fun W hW => rda_rd HR5.out (fun b hb => hb.2) hW; have HLr : Hid (∀ W, Below w5.heap.size w5 W → SlP W W.heap.size 3 SpE (.slice Dr5 C.length kr5) C) := fun W hW => HL5.out.slp (fun b hb => hb.2) hW; clear hb)))
    all_goals (
      obtain ⟨hs_x, rt_x, rc_x, c0_x, c1_x, c2_x, hB, hs, rt0, rc0, rt1, rc1, c00, c01, c02, c10, c11, c12⟩ := HX1.out _ hbr6.out
      go_wp2_with fail
      go_ret
      exact ⟨rfl, hB⟩)
end Go.Proofs.YtkjijbogbelilaaGreat

namespace Go.Proofs.YtkjijbogbelilaaGreat
open Go.RowKit
set_option maxRecDepth 100000
set_option maxHeartbeats 4000000 in
theorem r09leq_any (ca cb : List Sp) (a b : Tr) (T : Tr) (C : List Sp) (va ka vb kb vca vcb : Value) (w : World) (ha : a.rd w w.heap.size va ka) (hb : b.rd w w.heap.size vb kb) (hca : SlP w w.heap.size 3 SpE vca ca) (hcb : SlP w w.heap.size 3 SpE vcb cb) (hza : a.sz ≤ 4000) (hzb : b.sz ≤ 4000) (hra : SpsOk ca) (hrb : SpsOk cb) (hN1 : ca.length ≤ 20000) (hN2 : cb.length ≤ 20000)
    (HT : Hid (buildL (r9L (a.lvs []) (b.lvs []) ca cb) = T)) (HC : Hid (ctxBy ca cb 0 = C)) :
    Calls Tryz.prog 32 #[.agg #[va, ka, vca], .agg #[vb, kb, vcb]] w fun e w' => e = .returned (.bool (trEq T b && decide (C = cb))) ∧ Below w.heap.size w w' := by
  have HA : Hid (∀ w', Below w.heap.size w w' → a.rd w' w'.heap.size va ka) := fun w' hb => rd_below hb hb.size _ _ _ ha
  have HB : Hid (∀ w', Below w.heap.size w w' → b.rd w' w'.heap.size vb kb) := fun w' hb' => rd_below hb' hb'.size _ _ _ hb
  have HCA : Hid (∀ w', Below w.heap.size w w' → SlP w' w'.heap.size 3 SpE vca ca) := fun w' hb => hca.imp hb hb.size fun _ _ _ h => h
  have HCB : Hid (∀ w', Below w.heap.size w w' → SlP w' w'.heap.size 3 SpE vcb cb) := fun w' hb => hcb.imp hb hb.size fun _ _ _ h => h
  have HR1 := hid hra
  have HR2 := hid hrb
  obtain ⟨A1, n1, A2, n2, rfl, rfl⟩ := rd_shape ha
  obtain ⟨A3, n3, A4, n4, rfl, rfl⟩ := rd_shape hb
  obtain ⟨A5, n5, rfl, _⟩ := hca
  obtain ⟨A6, n6, rfl, _⟩ := hcb
  have HX : Hid (∀ W, Below (w.heap.size + 2) ((w.alloc (.cells #[.slice A1 a.es.length n1, .slice A2 a.ks.length n2, .slice A5 ca.length n5] 29)).alloc (.cells #[.slice A3 b.es.length n3, .slice A4 b.ks.length n4, .slice A6 cb.length n6] 29)) W → Below w.heap.size w W ∧ w.heap.size + 2 ≤ W.heap.size ∧ (W.cell? ⟨w.heap.size, 0, none⟩ = some (.slice A1 a.es.length n1) ∧ W.cell? ⟨w.heap.size, 1, none⟩ = some (.slice A2 a.ks.length n2) ∧ W.cell? ⟨w.heap.size, 2, none⟩ = some (.slice A5 ca.length n5) ∧ W.cell? ⟨w.heap.size + 1, 0, none⟩ = some (.slice A3 b.es.length n3) ∧ W.cell? ⟨w.heap.size + 1, 1, none⟩ = some (.slice A4 b.ks.length n4) ∧ W.cell? ⟨w.heap.size + 1, 2, none⟩ = some (.slice A6 cb.length n6))) := fun W hW => by
    have g0 : W.heap[w.heap.size]? = some (.cells #[.slice A1 a.es.length n1, .slice A2 a.ks.length n2, .slice A5 ca.length n5] 29 (0, 0)) := (hW.block _ (by omega)).trans ((heap_old (by simp)).trans (heap_new rfl))
    have g1 : W.heap[w.heap.size + 1]? = some (.cells #[.slice A3 b.es.length n3, .slice A4 b.ks.length n4, .slice A6 cb.length n6] 29 (0, 0)) := (hW.block _ (by omega)).trans (heap_new (by simp))
    exact ⟨(((Below.refl _ w).alloc (Nat.le_refl _) _).alloc (by simp) _).trans (hW.mono (by omega)), by have := hW.size; simpa using this, cell_cells (i := 0) g0, cell_cells (i := 1) g0, cell_cells (i := 2) g0, cell_cells (i := 0) g1, cell_cells (i := 1) g1, cell_cells (i := 2) g1⟩
  clear ha hb
  go_enter Tryz.func32, Tryz.ntmps32
  go_upto_region 1 with (fail)
  go_region_held3 (fun w' => w'.cell? ⟨w.heap.size, 0, none⟩ = some (.slice A1 a.es.length n1) ∧ w'.cell? ⟨w.heap.size, 1, none⟩ = some (.slice A2 a.ks.length n2) ∧ w'.cell? ⟨w.heap.size, 2, none⟩ = some (.slice A5 ca.length n5) ∧ w'.cell? ⟨w.heap.size + 1, 0, none⟩ = some (.slice A3 b.es.length n3) ∧ w'.cell? ⟨w.heap.size + 1, 1, none⟩ = some (.slice A4 b.ks.length n4) ∧ w'.cell? ⟨w.heap.size + 1, 2, none⟩ = some (.slice A6 cb.length n6))
    (first | go_keep | exact (HX.out _ hbk2.out).2.2 | exact (HX.out _ hbk1.out).2.2 | fail)
    (first
      | (go_at_call 27; go_loud ((refine (r09same_any T b C cb _ _ _ _ _ _ w1 HRD.out (HB.out _ (HX.out _ hbk1.out).1) HSL.out (HCB.out _ (HX.out _ hbk1.out).1)).mono ?_); rintro e w2 ⟨rfl, hb⟩; have hbk2 := hid (hbk1.out.trans (hb.mono (HX.out _ hbk1.out).2.1)); clear hb))
      | (go_at_call 28; go_loud ((refine (r09join_any ca cb a b _ _ _ _ _ _ _ (HA.out _ (HX.out _ (by go_grown)).1) (HB.out _ (HX.out _ (by go_grown)).1) (HCA.out _ (HX.out _ (by go_grown)).1) (HCB.out _ (HX.out _ (by go_grown)).1) hza hzb HR1.out HR2.out hN1 hN2).mono ?_); rw [HT.out, HC.out]; rintro e w1 ⟨ve1, vk1, vc1, rfl, hrd1, hsl1, hb⟩; obtain ⟨Av, nv, Aw, nw, hv1, hv2⟩ := rda_shape hrd1; subst hv1; subst hv2; obtain ⟨Ac, nc, hv3⟩ := hsl1.shape; subst hv3; have HRD := hid (rda_rd hrd1 (fun b hb => hb.2) (Below.refl _ _)); have HSL := hid (hsl1.slp (fun b hb => hb.2) (Below.refl _ _)); have hbk1 : Hid (Below (w.heap.size + 2) ((w.alloc (.cells #[.slice A1 a.es.length n1, .slice A2 a.ks.length n2, .slice A5 ca.length n5] 29)).alloc (.cells #[.slice A3 b.es.length n3, .slice A4 b.ks.length n4, .slice A6 cb.length n6] 29)) w1) := (Below.trans (by go_grown) (hb.mono (by simp))); clear hrd1 hsl1 hb)))
  all_goals (
    go_wp2_with fail
    go_ret
    exact ⟨rfl, (HX.out _ hbk2.out).1⟩)
end Go.Proofs.YtkjijbogbelilaaGreat
