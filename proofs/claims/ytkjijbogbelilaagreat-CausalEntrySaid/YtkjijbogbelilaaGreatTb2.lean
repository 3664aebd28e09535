/- What the laws need, part 2: The law CausalOrder answers true. No condition. -/
import Derived.Test.YtkjijbogbelilaaGreatTb1
namespace Go.Proofs.YtkjijbogbelilaaGreat
open Go.RowKit
set_option maxRecDepth 100000

theorem bool_iff' {a : Bool} {p : Prop} (h : a = true ↔ p) {b : Bool} (k : b = true ↔ p) : a = b := by
  rw [Bool.eq_iff_iff, h, k]
theorem order_plain {a b c : Tr} {ac bc cc : List Sp} (h : KOk (a, ac) ∧ KOk (b, bc) ∧ KOk (c, cc)) :
    ∃ (P Q R S : Bool), Hid (kLeq a a ac ac = true) ∧ Hid (kLeq a b ac bc = P) ∧ Hid (kLeq b a bc ac = Q) ∧ Hid (kSame a b ac bc = S) ∧ Hid (kLeq b c bc cc = R) ∧ Hid (kLeq (.mk [] []) a [] ac = true) ∧ Hid (S = (P && Q)) ∧ Hid (P = true → R = true → kLeq a c ac cc = true) := by
  obtain ⟨ha, hb, hc⟩ := h
  refine ⟨_, _, _, _, (kLeq_ok ha ha).2 (jn_idem ha), rfl, rfl, rfl, rfl, (kLeq_ok kn0_ok ha).2 (jn_nil ha), ?_, fun h1 h2 => ?_⟩
  · refine bool_iff' (kSame_ok ha hb) ?_
    rw [Bool.and_eq_true]
    refine (and_congr (kLeq_ok ha hb) (kLeq_ok hb ha)).trans ⟨fun ⟨h1, h2⟩ => ?_, fun h => ?_⟩
    · rw [← h2, jn_comm hb ha, h1]
    · rw [h]; exact ⟨jn_idem hb, jn_idem hb⟩
  · have h1 := (kLeq_ok ha hb).1 h1
    have h2 := (kLeq_ok hb hc).1 h2
    refine (kLeq_ok ha hc).2 ?_
    calc jn (a, ac) (c, cc) = jn (a, ac) (jn (b, bc) (c, cc)) := by rw [h2]
      _ = jn (jn (a, ac) (b, bc)) (c, cc) := (jn_assoc ha hb hc).symm
      _ = (c, cc) := by rw [h1, h2]
set_option maxHeartbeats 4000000 in
theorem lawCO_any (a : Tr) (ac : List Sp) (b : Tr) (bc : List Sp) (c : Tr) (cc : List Sp) (w : World) (ve0 vk0 vc0 ve1 vk1 vc1 ve2 vk2 vc2 : Value) (h0 : a.rd w w.heap.size ve0 vk0) (hc0 : SlP w w.heap.size 3 SpE vc0 ac) (h1 : b.rd w w.heap.size ve1 vk1) (hc1 : SlP w w.heap.size 3 SpE vc1 bc) (h2 : c.rd w w.heap.size ve2 vk2) (hc2 : SlP w w.heap.size 3 SpE vc2 cc) :
    Calls Tryz.prog 9 #[.agg #[ve0, vk0, vc0], .agg #[ve1, vk1, vc1], .agg #[ve2, vk2, vc2]] w fun e w' => e = .returned (.bool true) ∧ Below w.heap.size w w' := by
  have HC0 : Hid (∀ w', Below w.heap.size w w' → a.rd w' w'.heap.size ve0 vk0) := fun w' hb => rd_below hb hb.size _ _ _ h0
  have HD0 : Hid (∀ w', Below w.heap.size w w' → SlP w' w'.heap.size 3 SpE vc0 ac) := fun w' hb => hc0.imp hb hb.size fun _ _ _ h => h
  obtain ⟨A0, n0, B0, m0, rfl, rfl⟩ := rd_shape h0
  obtain ⟨D0, k0, rfl, _⟩ := hc0
  clear h0
  have HC1 : Hid (∀ w', Below w.heap.size w w' → b.rd w' w'.heap.size ve1 vk1) := fun w' hb => rd_below hb hb.size _ _ _ h1
  have HD1 : Hid (∀ w', Below w.heap.size w w' → SlP w' w'.heap.size 3 SpE vc1 bc) := fun w' hb => hc1.imp hb hb.size fun _ _ _ h => h
  obtain ⟨A1, n1, B1, m1, rfl, rfl⟩ := rd_shape h1
  obtain ⟨D1, k1, rfl, _⟩ := hc1
  clear h1
  have HC2 : Hid (∀ w', Below w.heap.size w w' → c.rd w' w'.heap.size ve2 vk2) := fun w' hb => rd_below hb hb.size _ _ _ h2
  have HD2 : Hid (∀ w', Below w.heap.size w w' → SlP w' w'.heap.size 3 SpE vc2 cc) := fun w' hb => hc2.imp hb hb.size fun _ _ _ h => h
  obtain ⟨A2, n2, B2, m2, rfl, rfl⟩ := rd_shape h2
  obtain ⟨D2, k2, rfl, _⟩ := hc2
  clear h2
  have HX0 : Hid (∀ W, Below (w.heap.size + 3) (((w.alloc (.cells #[.slice A0 a.es.length n0, .slice B0 a.ks.length m0, .slice D0 ac.length k0] 29)).alloc (.cells #[.slice A1 b.es.length n1, .slice B1 b.ks.length m1, .slice D1 bc.length k1] 29)).alloc (.cells #[.slice A2 c.es.length n2, .slice B2 c.ks.length m2, .slice D2 cc.length k2] 29)) W → (Below w.heap.size w W ∧ w.heap.size + 3 ≤ (W).heap.size ∧ a.rd W (W).heap.size (.slice A0 a.es.length n0) (.slice B0 a.ks.length m0) ∧ SlP W (W).heap.size 3 SpE (.slice D0 ac.length k0) ac ∧ b.rd W (W).heap.size (.slice A1 b.es.length n1) (.slice B1 b.ks.length m1) ∧ SlP W (W).heap.size 3 SpE (.slice D1 bc.length k1) bc ∧ c.rd W (W).heap.size (.slice A2 c.es.length n2) (.slice B2 c.ks.length m2) ∧ SlP W (W).heap.size 3 SpE (.slice D2 cc.length k2) cc ∧ (W).cell? ⟨w.heap.size, 0, none⟩ = some (.slice A0 a.es.length n0) ∧ (W).cell? ⟨w.heap.size, 1, none⟩ = some (.slice B0 a.ks.length m0) ∧ (W).cell? ⟨w.heap.size, 2, none⟩ = some (.slice D0 ac.length k0) ∧ (W).cell? ⟨(w.heap.size + 1), 0, none⟩ = some (.slice A1 b.es.length n1) ∧ (W).cell? ⟨(w.heap.size + 1), 1, none⟩ = some (.slice B1 b.ks.length m1) ∧ (W).cell? ⟨(w.heap.size + 1), 2, none⟩ = some (.slice D1 bc.length k1) ∧ (W).cell? ⟨(w.heap.size + 2), 0, none⟩ = some (.slice A2 c.es.length n2) ∧ (W).cell? ⟨(w.heap.size + 2), 1, none⟩ = some (.slice B2 c.ks.length m2) ∧ (W).cell? ⟨(w.heap.size + 2), 2, none⟩ = some (.slice D2 cc.length k2))) := fun W hW => by
    have g0 : W.heap[w.heap.size]? = some (.cells #[.slice A0 a.es.length n0, .slice B0 a.ks.length m0, .slice D0 ac.length k0] 29 (0, 0)) := (hW.block _ (by omega)).trans ((heap_old (by simp <;> omega)).trans ((heap_old (by simp <;> omega)).trans (heap_new rfl)))
    have g1 : W.heap[(w.heap.size + 1)]? = some (.cells #[.slice A1 b.es.length n1, .slice B1 b.ks.length m1, .slice D1 bc.length k1] 29 (0, 0)) := (hW.block _ (by omega)).trans ((heap_old (by simp <;> omega)).trans (heap_new (by simp)))
    have g2 : W.heap[(w.heap.size + 2)]? = some (.cells #[.slice A2 c.es.length n2, .slice B2 c.ks.length m2, .slice D2 cc.length k2] 29 (0, 0)) := (hW.block _ (by omega)).trans (heap_new (by simp))
    have hB : Below w.heap.size w W := ((((Below.refl _ w).alloc (Nat.le_refl _) _).alloc (by simp <;> omega) _).alloc (by simp <;> omega) _).trans (hW.mono (by omega))
    exact ⟨hB, by have := hW.size; simpa using this, HC0.out _ hB, HD0.out _ hB, HC1.out _ hB, HD1.out _ hB, HC2.out _ hB, HD2.out _ hB, cell_cells (i := 0) g0, cell_cells (i := 1) g0, cell_cells (i := 2) g0, cell_cells (i := 0) g1, cell_cells (i := 1) g1, cell_cells (i := 2) g1, cell_cells (i := 0) g2, cell_cells (i := 1) g2, cell_cells (i := 2) g2⟩
  have hnb1 : w.heap.size + 1 ≠ w.heap.size := by omega
  have hnb2 : w.heap.size + 2 ≠ w.heap.size := by omega
  go_enter Tryz.func9, Tryz.ntmps9
  obtain ⟨SM, HSM⟩ : ∃ q : Bool, Hid (([(a, ac), (b, bc), (c, cc)] : List Kn).all (fun x => sml9 x.1 x.2 40) = q) := ⟨_, rfl⟩
  obtain ⟨RM, HRM⟩ : ∃ q : Bool, Hid (([(a, ac), (b, bc), (c, cc)] : List Kn).all (fun x => caR x.1 x.2) = q) := ⟨_, rfl⟩
  go_wp2_with fail
  obtain ⟨hB, hs, rt0, rc0, rt1, rc1, rt2, rc2, c00, c01, c02, c10, c11, c12, c20, c21, c22⟩ := HX0.out _ (Below.refl _ _)
  refine (awake09_any _).mono ?_
  rintro e w1 ⟨rfl, hb⟩
  have hbk1 : Hid (Below (w.heap.size + 3) (((w.alloc (.cells #[.slice A0 a.es.length n0, .slice B0 a.ks.length m0, .slice D0 ac.length k0] 29)).alloc (.cells #[.slice A1 b.es.length n1, .slice B1 b.ks.length m1, .slice D1 bc.length k1] 29)).alloc (.cells #[.slice A2 c.es.length n2, .slice B2 c.ks.length m2, .slice D2 cc.length k2] 29)) w1) := hid (hb.mono (by first | omega | (simp; done) | (simp; omega)))
  clear hb
  clear hB hs rt0 rc0 rt1 rc1 rt2 rc2 c00 c01 c02 c10 c11 c12 c20 c21 c22
  obtain ⟨hB, hs, rt0, rc0, rt1, rc1, rt2, rc2, c00, c01, c02, c10, c11, c12, c20, c21, c22⟩ := HX0.out _ hbk1.out
  go_wp2_with fail
  have hsl_le : (w.heap.size + 3) ≤ (w1).heap.size := (by first | omega | (simp; done) | (simp; omega))
  clear hB hs rt0 rc0 rt1 rc1 rt2 rc2 c00 c01 c02 c10 c11 c12 c20 c21 c22
  obtain ⟨hB, hs, rt0, rc0, rt1, rc1, rt2, rc2, c00, c01, c02, c10, c11, c12, c20, c21, c22⟩ := HX0.out _ (hbk1.out.alloc hsl_le (.cells #[.slice A0 a.es.length n0, .slice B0 a.ks.length m0, .slice D0 ac.length k0, .slice A1 b.es.length n1, .slice B1 b.ks.length m1, .slice D1 bc.length k1, .slice A2 c.es.length n2, .slice B2 c.ks.length m2, .slice D2 cc.length k2] 29))
  refine (small09_any [(a, ac), (b, bc), (c, cc)] _ _ (slp3 (heap_new rfl) (kn_at rt0 rc0) (kn_at rt1 rc1) (kn_at rt2 rc2) (by simp))).mono ?_
  rw [HSM.out]
  rintro e w2 ⟨rfl, hb⟩
  have hbk2 : Hid (Below (w.heap.size + 3) (((w.alloc (.cells #[.slice A0 a.es.length n0, .slice B0 a.ks.length m0, .slice D0 ac.length k0] 29)).alloc (.cells #[.slice A1 b.es.length n1, .slice B1 b.ks.length m1, .slice D1 bc.length k1] 29)).alloc (.cells #[.slice A2 c.es.length n2, .slice B2 c.ks.length m2, .slice D2 cc.length k2] 29)) w2) := hid ((hbk1.out.alloc hsl_le (.cells #[.slice A0 a.es.length n0, .slice B0 a.ks.length m0, .slice D0 ac.length k0, .slice A1 b.es.length n1, .slice B1 b.ks.length m1, .slice D1 bc.length k1, .slice A2 c.es.length n2, .slice B2 c.ks.length m2, .slice D2 cc.length k2] 29)).trans (hb.mono (by first | omega | (simp; done) | (simp; omega))))
  clear hb
  clear hB hs rt0 rc0 rt1 rc1 rt2 rc2 c00 c01 c02 c10 c11 c12 c20 c21 c22
  obtain ⟨hB, hs, rt0, rc0, rt1, rc1, rt2, rc2, c00, c01, c02, c10, c11, c12, c20, c21, c22⟩ := HX0.out _ hbk2.out
  cases SM
  · skip
    go_wp2_with fail
    refine (awake09_any _).mono ?_
    rintro e w3 ⟨rfl, hb⟩
    have hbk3 : Hid (Below (w.heap.size + 3) (((w.alloc (.cells #[.slice A0 a.es.length n0, .slice B0 a.ks.length m0, .slice D0 ac.length k0] 29)).alloc (.cells #[.slice A1 b.es.length n1, .slice B1 b.ks.length m1, .slice D1 bc.length k1] 29)).alloc (.cells #[.slice A2 c.es.length n2, .slice B2 c.ks.length m2, .slice D2 cc.length k2] 29)) w3) := hid (hbk2.out.trans (hb.mono (by first | omega | (simp; done) | (simp; omega))))
    clear hb
    clear hB hs rt0 rc0 rt1 rc1 rt2 rc2 c00 c01 c02 c10 c11 c12 c20 c21 c22
    obtain ⟨hB, hs, rt0, rc0, rt1, rc1, rt2, rc2, c00, c01, c02, c10, c11, c12, c20, c21, c22⟩ := HX0.out _ hbk3.out
    go_wp2_with fail
    go_ret
    exact ⟨rfl, hB⟩
  obtain ⟨⟨z1, z2⟩, ⟨z3, z4⟩, z5, z6⟩ := sml_all3 HSM.out
  simp only at z1 z2 z3 z4 z5 z6
  go_wp2_with fail
  have hsl_le : (w.heap.size + 3) ≤ (w2).heap.size := (by first | omega | (simp; done) | (simp; omega))
  clear hB hs rt0 rc0 rt1 rc1 rt2 rc2 c00 c01 c02 c10 c11 c12 c20 c21 c22
  obtain ⟨hB, hs, rt0, rc0, rt1, rc1, rt2, rc2, c00, c01, c02, c10, c11, c12, c20, c21, c22⟩ := HX0.out _ (hbk2.out.alloc hsl_le (.cells #[.slice A0 a.es.length n0, .slice B0 a.ks.length m0, .slice D0 ac.length k0, .slice A1 b.es.length n1, .slice B1 b.ks.length m1, .slice D1 bc.length k1, .slice A2 c.es.length n2, .slice B2 c.ks.length m2, .slice D2 cc.length k2] 29))
  refine (right09_any [(a, ac), (b, bc), (c, cc)] _ _ (slp3 (heap_new rfl) (kn_at rt0 rc0) (kn_at rt1 rc1) (kn_at rt2 rc2) (by simp)) (fun x hx => by simp at hx; rcases hx with rfl | rfl | rfl <;> exact ⟨by simp only; omega, by simp only; omega⟩)).mono ?_
  rw [HRM.out]
  rintro e w3 ⟨rfl, hb⟩
  have hbk3 : Hid (Below (w.heap.size + 3) (((w.alloc (.cells #[.slice A0 a.es.length n0, .slice B0 a.ks.length m0, .slice D0 ac.length k0] 29)).alloc (.cells #[.slice A1 b.es.length n1, .slice B1 b.ks.length m1, .slice D1 bc.length k1] 29)).alloc (.cells #[.slice A2 c.es.length n2, .slice B2 c.ks.length m2, .slice D2 cc.length k2] 29)) w3) := hid ((hbk2.out.alloc hsl_le (.cells #[.slice A0 a.es.length n0, .slice B0 a.ks.length m0, .slice D0 ac.length k0, .slice A1 b.es.length n1, .slice B1 b.ks.length m1, .slice D1 bc.length k1, .slice A2 c.es.length n2, .slice B2 c.ks.length m2, .slice D2 cc.length k2] 29)).trans (hb.mono (by first | omega | (simp; done) | (simp; omega))))
  clear hb
  clear hB hs rt0 rc0 rt1 rc1 rt2 rc2 c00 c01 c02 c10 c11 c12 c20 c21 c22
  obtain ⟨hB, hs, rt0, rc0, rt1, rc1, rt2, rc2, c00, c01, c02, c10, c11, c12, c20, c21, c22⟩ := HX0.out _ hbk3.out
  cases RM
  · skip
    go_wp2_with fail
    refine (awake09_any _).mono ?_
    rintro e w4 ⟨rfl, hb⟩
    have hbk4 : Hid (Below (w.heap.size + 3) (((w.alloc (.cells #[.slice A0 a.es.length n0, .slice B0 a.ks.length m0, .slice D0 ac.length k0] 29)).alloc (.cells #[.slice A1 b.es.length n1, .slice B1 b.ks.length m1, .slice D1 bc.length k1] 29)).alloc (.cells #[.slice A2 c.es.length n2, .slice B2 c.ks.length m2, .slice D2 cc.length k2] 29)) w4) := hid (hbk3.out.trans (hb.mono (by first | omega | (simp; done) | (simp; omega))))
    clear hb
    clear hB hs rt0 rc0 rt1 rc1 rt2 rc2 c00 c01 c02 c10 c11 c12 c20 c21 c22
    obtain ⟨hB, hs, rt0, rc0, rt1, rc1, rt2, rc2, c00, c01, c02, c10, c11, c12, c20, c21, c22⟩ := HX0.out _ hbk4.out
    go_wp2_with fail
    go_ret
    exact ⟨rfl, hB⟩
  obtain ⟨P, Q, R, S, E1, E2, E3, E4, E5, E7, HS1, HS2⟩ := order_plain (car_all3 HRM.out)
  go_upto_region 3 with (fail)
  have HK1 : Hid (∀ W, Below (w.heap.size + 3) (((w.alloc (.cells #[.slice A0 a.es.length n0, .slice B0 a.ks.length m0, .slice D0 ac.length k0] 29)).alloc (.cells #[.slice A1 b.es.length n1, .slice B1 b.ks.length m1, .slice D1 bc.length k1] 29)).alloc (.cells #[.slice A2 c.es.length n2, .slice B2 c.ks.length m2, .slice D2 cc.length k2] 29)) W → ((W).cell? ⟨w.heap.size, 0, none⟩ = some (.slice A0 a.es.length n0) ∧ (W).cell? ⟨w.heap.size, 1, none⟩ = some (.slice B0 a.ks.length m0) ∧ (W).cell? ⟨w.heap.size, 2, none⟩ = some (.slice D0 ac.length k0) ∧ (W).cell? ⟨(w.heap.size + 1), 0, none⟩ = some (.slice A1 b.es.length n1) ∧ (W).cell? ⟨(w.heap.size + 1), 1, none⟩ = some (.slice B1 b.ks.length m1) ∧ (W).cell? ⟨(w.heap.size + 1), 2, none⟩ = some (.slice D1 bc.length k1) ∧ (W).cell? ⟨(w.heap.size + 2), 0, none⟩ = some (.slice A2 c.es.length n2) ∧ (W).cell? ⟨(w.heap.size + 2), 1, none⟩ = some (.slice B2 c.ks.length m2) ∧ (W).cell? ⟨(w.heap.size + 2), 2, none⟩ = some (.slice D2 cc.length k2))) := fun W hW => by
    obtain ⟨_, _, _, _, _, _, _, _, z_c00, z_c01, z_c02, z_c10, z_c11, z_c12, z_c20, z_c21, z_c22⟩ := HX0.out W hW
    exact ⟨z_c00, z_c01, z_c02, z_c10, z_c11, z_c12, z_c20, z_c21, z_c22⟩
  have Hrt0_1 : Hid (∀ W, Below (w.heap.size + 3) (((w.alloc (.cells #[.slice A0 a.es.length n0, .slice B0 a.ks.length m0, .slice D0 ac.length k0] 29)).alloc (.cells #[.slice A1 b.es.length n1, .slice B1 b.ks.length m1, .slice D1 bc.length k1] 29)).alloc (.cells #[.slice A2 c.es.length n2, .slice B2 c.ks.length m2, .slice D2 cc.length k2] 29)) W → a.rd W (W).heap.size (.slice A0 a.es.length n0) (.slice B0 a.ks.length m0)) := fun W hW => by
    obtain ⟨_, _, z, _, _, _, _, _, _, _, _, _, _, _, _, _, _⟩ := HX0.out W hW
    exact z
  have Hrc0_1 : Hid (∀ W, Below (w.heap.size + 3) (((w.alloc (.cells #[.slice A0 a.es.length n0, .slice B0 a.ks.length m0, .slice D0 ac.length k0] 29)).alloc (.cells #[.slice A1 b.es.length n1, .slice B1 b.ks.length m1, .slice D1 bc.length k1] 29)).alloc (.cells #[.slice A2 c.es.length n2, .slice B2 c.ks.length m2, .slice D2 cc.length k2] 29)) W → SlP W (W).heap.size 3 SpE (.slice D0 ac.length k0) ac) := fun W hW => by
    obtain ⟨_, _, _, z, _, _, _, _, _, _, _, _, _, _, _, _, _⟩ := HX0.out W hW
    exact z
  have Hrt1_1 : Hid (∀ W, Below (w.heap.size + 3) (((w.alloc (.cells #[.slice A0 a.es.length n0, .slice B0 a.ks.length m0, .slice D0 ac.length k0] 29)).alloc (.cells #[.slice A1 b.es.length n1, .slice B1 b.ks.length m1, .slice D1 bc.length k1] 29)).alloc (.cells #[.slice A2 c.es.length n2, .slice B2 c.ks.length m2, .slice D2 cc.length k2] 29)) W → b.rd W (W).heap.size (.slice A1 b.es.length n1) (.slice B1 b.ks.length m1)) := fun W hW => by
    obtain ⟨_, _, _, _, z, _, _, _, _, _, _, _, _, _, _, _, _⟩ := HX0.out W hW
    exact z
  have Hrc1_1 : Hid (∀ W, Below (w.heap.size + 3) (((w.alloc (.cells #[.slice A0 a.es.length n0, .slice B0 a.ks.length m0, .slice D0 ac.length k0] 29)).alloc (.cells #[.slice A1 b.es.length n1, .slice B1 b.ks.length m1, .slice D1 bc.length k1] 29)).alloc (.cells #[.slice A2 c.es.length n2, .slice B2 c.ks.length m2, .slice D2 cc.length k2] 29)) W → SlP W (W).heap.size 3 SpE (.slice D1 bc.length k1) bc) := fun W hW => by
    obtain ⟨_, _, _, _, _, z, _, _, _, _, _, _, _, _, _, _, _⟩ := HX0.out W hW
    exact z
  have Hrt2_1 : Hid (∀ W, Below (w.heap.size + 3) (((w.alloc (.cells #[.slice A0 a.es.length n0, .slice B0 a.ks.length m0, .slice D0 ac.length k0] 29)).alloc (.cells #[.slice A1 b.es.length n1, .slice B1 b.ks.length m1, .slice D1 bc.length k1] 29)).alloc (.cells #[.slice A2 c.es.length n2, .slice B2 c.ks.length m2, .slice D2 cc.length k2] 29)) W → c.rd W (W).heap.size (.slice A2 c.es.length n2) (.slice B2 c.ks.length m2)) := fun W hW => by
    obtain ⟨_, _, _, _, _, _, z, _, _, _, _, _, _, _, _, _, _⟩ := HX0.out W hW
    exact z
  have Hrc2_1 : Hid (∀ W, Below (w.heap.size + 3) (((w.alloc (.cells #[.slice A0 a.es.length n0, .slice B0 a.ks.length m0, .slice D0 ac.length k0] 29)).alloc (.cells #[.slice A1 b.es.length n1, .slice B1 b.ks.length m1, .slice D1 bc.length k1] 29)).alloc (.cells #[.slice A2 c.es.length n2, .slice B2 c.ks.length m2, .slice D2 cc.length k2] 29)) W → SlP W (W).heap.size 3 SpE (.slice D2 cc.length k2) cc) := fun W hW => by
    obtain ⟨_, _, _, _, _, _, _, z, _, _, _, _, _, _, _, _, _⟩ := HX0.out W hW
    exact z
  have HS_1 : Hid (∀ W, Below (w.heap.size + 3) (((w.alloc (.cells #[.slice A0 a.es.length n0, .slice B0 a.ks.length m0, .slice D0 ac.length k0] 29)).alloc (.cells #[.slice A1 b.es.length n1, .slice B1 b.ks.length m1, .slice D1 bc.length k1] 29)).alloc (.cells #[.slice A2 c.es.length n2, .slice B2 c.ks.length m2, .slice D2 cc.length k2] 29)) W → (w.heap.size + 3) ≤ W.heap.size) := fun W hW => by
    have := hW.size
    first | omega | (simp at this; omega)
  have hsb1 := HS_1.out _ hbk3.out
  clear hB rt0 rc0 rt1 rc1 rt2 rc2
  go_region_held3 (fun W => (W).cell? ⟨w.heap.size, 0, none⟩ = some (.slice A0 a.es.length n0) ∧ (W).cell? ⟨w.heap.size, 1, none⟩ = some (.slice B0 a.ks.length m0) ∧ (W).cell? ⟨w.heap.size, 2, none⟩ = some (.slice D0 ac.length k0) ∧ (W).cell? ⟨(w.heap.size + 1), 0, none⟩ = some (.slice A1 b.es.length n1) ∧ (W).cell? ⟨(w.heap.size + 1), 1, none⟩ = some (.slice B1 b.ks.length m1) ∧ (W).cell? ⟨(w.heap.size + 1), 2, none⟩ = some (.slice D1 bc.length k1) ∧ (W).cell? ⟨(w.heap.size + 2), 0, none⟩ = some (.slice A2 c.es.length n2) ∧ (W).cell? ⟨(w.heap.size + 2), 1, none⟩ = some (.slice B2 c.ks.length m2) ∧ (W).cell? ⟨(w.heap.size + 2), 2, none⟩ = some (.slice D2 cc.length k2))
    (first | go_keep | exact HK1.out _ hbr5.out | exact HK1.out _ (hbr5.out.trans (by go_grown)) | exact HK1.out _ hbr4.out | exact HK1.out _ (hbr4.out.trans (by go_grown)) | exact HK1.out _ (hbk3.out.trans (by go_grown)) | fail)
    (first
      | (go_at_call 30; go_loud ((refine (cleqK_any bc ac b a _ _ _ _ _ _ _ (Hrt1_1.out _ (hbr4.out.trans (by go_grown))) (Hrt0_1.out _ (hbr4.out.trans (by go_grown))) (Hrc1_1.out _ (hbr4.out.trans (by go_grown))) (Hrc0_1.out _ (hbr4.out.trans (by go_grown))) (by omega) (by omega) (by omega) (by omega)).mono ?_); rw [E3.out]; rintro e w5 ⟨rfl, hb⟩; have hbr5 : Hid (Below (w.heap.size + 3) (((w.alloc (.cells #[.slice A0 a.es.length n0, .slice B0 a.ks.length m0, .slice D0 ac.length k0] 29)).alloc (.cells #[.slice A1 b.es.length n1, .slice B1 b.ks.length m1, .slice D1 bc.length k1] 29)).alloc (.cells #[.slice A2 c.es.length n2, .slice B2 c.ks.length m2, .slice D2 cc.length k2] 29)) w5) := hid (Below.trans (hbr4.out.trans (by go_grown)) (hb.mono (by first | omega | (simp; done) | (simp; omega)))); have hsr5 := HS_1.out _ hbr5.out; have hch4_5 : Hid (Below w4.heap.size w4 w5) := hid (Below.trans (by go_grown) (hb.mono (by first | omega | (simp; done) | (simp; omega)))); clear hb))
      | (go_at_call 30; go_loud ((refine (cleqK_any ac bc a b _ _ _ _ _ _ _ (Hrt0_1.out _ (hbk3.out.trans (by go_grown))) (Hrt1_1.out _ (hbk3.out.trans (by go_grown))) (Hrc0_1.out _ (hbk3.out.trans (by go_grown))) (Hrc1_1.out _ (hbk3.out.trans (by go_grown))) (by omega) (by omega) (by omega) (by omega)).mono ?_); rw [E2.out]; rintro e w4 ⟨rfl, hb⟩; have hbr4 : Hid (Below (w.heap.size + 3) (((w.alloc (.cells #[.slice A0 a.es.length n0, .slice B0 a.ks.length m0, .slice D0 ac.length k0] 29)).alloc (.cells #[.slice A1 b.es.length n1, .slice B1 b.ks.length m1, .slice D1 bc.length k1] 29)).alloc (.cells #[.slice A2 c.es.length n2, .slice B2 c.ks.length m2, .slice D2 cc.length k2] 29)) w4) := hid (Below.trans (hbk3.out.trans (by go_grown)) (hb.mono (by first | omega | (simp; done) | (simp; omega)))); have hsr4 := HS_1.out _ hbr4.out; clear hb)))
  clear hs c00 c01 c02 c10 c11 c12 c20 c21 c22
  obtain ⟨hB, hs, rt0, rc0, rt1, rc1, rt2, rc2, c00, c01, c02, c10, c11, c12, c20, c21, c22⟩ := HX0.out _ hbr5.out
  cases P
  · cases Q
    · have hpq : S = false := by rw [HS1.out]; rfl
      subst hpq
      go_wp2_with fail
      refine (cleqK_any ac ac a a _ _ _ _ _ _ _ rt0 rt0 rc0 rc0 (by omega) (by omega) (by omega) (by omega)).mono ?_
      rw [E1.out]
      rintro e w6 ⟨rfl, hb⟩
      have hbk6 : Hid (Below (w.heap.size + 3) (((w.alloc (.cells #[.slice A0 a.es.length n0, .slice B0 a.ks.length m0, .slice D0 ac.length k0] 29)).alloc (.cells #[.slice A1 b.es.length n1, .slice B1 b.ks.length m1, .slice D1 bc.length k1] 29)).alloc (.cells #[.slice A2 c.es.length n2, .slice B2 c.ks.length m2, .slice D2 cc.length k2] 29)) w6) := hid (hbr5.out.trans (hb.mono (by first | omega | (simp; done) | (simp; omega))))
      clear hb
      clear hB hs rt0 rc0 rt1 rc1 rt2 rc2 c00 c01 c02 c10 c11 c12 c20 c21 c22
      obtain ⟨hB, hs, rt0, rc0, rt1, rc1, rt2, rc2, c00, c01, c02, c10, c11, c12, c20, c21, c22⟩ := HX0.out _ hbk6.out
      go_wp2_with fail
      refine (csame_any ac bc a b _ _ _ _ _ _ _ rt0 rt1 rc0 rc1 (by omega) (by omega) (by omega) (by omega)).mono ?_
      rw [E4.out]
      rintro e w7 ⟨rfl, hb⟩
      have hbk7 : Hid (Below (w.heap.size + 3) (((w.alloc (.cells #[.slice A0 a.es.length n0, .slice B0 a.ks.length m0, .slice D0 ac.length k0] 29)).alloc (.cells #[.slice A1 b.es.length n1, .slice B1 b.ks.length m1, .slice D1 bc.length k1] 29)).alloc (.cells #[.slice A2 c.es.length n2, .slice B2 c.ks.length m2, .slice D2 cc.length k2] 29)) w7) := hid (hbk6.out.trans (hb.mono (by first | omega | (simp; done) | (simp; omega))))
      clear hb
      clear hB hs rt0 rc0 rt1 rc1 rt2 rc2 c00 c01 c02 c10 c11 c12 c20 c21 c22
      obtain ⟨hB, hs, rt0, rc0, rt1, rc1, rt2, rc2, c00, c01, c02, c10, c11, c12, c20, c21, c22⟩ := HX0.out _ hbk7.out
      go_wp2_with fail
      refine (cleqK_any [] ac (.mk [] []) a _ _ _ _ _ _ _ rd_empty rt0 SlP.nil rc0 (by simp [Tr.sz, Tr.szL]) (by omega) (by simp) (by omega)).mono ?_
      rw [E7.out]
      rintro e w8 ⟨rfl, hb⟩
      have hbk8 : Hid (Below (w.heap.size + 3) (((w.alloc (.cells #[.slice A0 a.es.length n0, .slice B0 a.ks.length m0, .slice D0 ac.length k0] 29)).alloc (.cells #[.slice A1 b.es.length n1, .slice B1 b.ks.length m1, .slice D1 bc.length k1] 29)).alloc (.cells #[.slice A2 c.es.length n2, .slice B2 c.ks.length m2, .slice D2 cc.length k2] 29)) w8) := hid (hbk7.out.trans (hb.mono (by first | omega | (simp; done) | (simp; omega))))
      clear hb
      clear hB hs rt0 rc0 rt1 rc1 rt2 rc2 c00 c01 c02 c10 c11 c12 c20 c21 c22
      obtain ⟨hB, hs, rt0, rc0, rt1, rc1, rt2, rc2, c00, c01, c02, c10, c11, c12, c20, c21, c22⟩ := HX0.out _ hbk8.out
      go_wp2_with fail
      go_ret
      exact ⟨rfl, hB⟩
    · have hpq : S = false := by rw [HS1.out]; rfl
      subst hpq
      go_wp2_with fail
      refine (cleqK_any ac ac a a _ _ _ _ _ _ _ rt0 rt0 rc0 rc0 (by omega) (by omega) (by omega) (by omega)).mono ?_
      rw [E1.out]
      rintro e w6 ⟨rfl, hb⟩
      have hbk6 : Hid (Below (w.heap.size + 3) (((w.alloc (.cells #[.slice A0 a.es.length n0, .slice B0 a.ks.length m0, .slice D0 ac.length k0] 29)).alloc (.cells #[.slice A1 b.es.length n1, .slice B1 b.ks.length m1, .slice D1 bc.length k1] 29)).alloc (.cells #[.slice A2 c.es.length n2, .slice B2 c.ks.length m2, .slice D2 cc.length k2] 29)) w6) := hid (hbr5.out.trans (hb.mono (by first | omega | (simp; done) | (simp; omega))))
      clear hb
      clear hB hs rt0 rc0 rt1 rc1 rt2 rc2 c00 c01 c02 c10 c11 c12 c20 c21 c22
      obtain ⟨hB, hs, rt0, rc0, rt1, rc1, rt2, rc2, c00, c01, c02, c10, c11, c12, c20, c21, c22⟩ := HX0.out _ hbk6.out
      go_wp2_with fail
      refine (csame_any ac bc a b _ _ _ _ _ _ _ rt0 rt1 rc0 rc1 (by omega) (by omega) (by omega) (by omega)).mono ?_
      rw [E4.out]
      rintro e w7 ⟨rfl, hb⟩
      have hbk7 : Hid (Below (w.heap.size + 3) (((w.alloc (.cells #[.slice A0 a.es.length n0, .slice B0 a.ks.length m0, .slice D0 ac.length k0] 29)).alloc (.cells #[.slice A1 b.es.length n1, .slice B1 b.ks.length m1, .slice D1 bc.length k1] 29)).alloc (.cells #[.slice A2 c.es.length n2, .slice B2 c.ks.length m2, .slice D2 cc.length k2] 29)) w7) := hid (hbk6.out.trans (hb.mono (by first | omega | (simp; done) | (simp; omega))))
      clear hb
      clear hB hs rt0 rc0 rt1 rc1 rt2 rc2 c00 c01 c02 c10 c11 c12 c20 c21 c22
      obtain ⟨hB, hs, rt0, rc0, rt1, rc1, rt2, rc2, c00, c01, c02, c10, c11, c12, c20, c21, c22⟩ := HX0.out _ hbk7.out
      go_wp2_with fail
      refine (cleqK_any [] ac (.mk [] []) a _ _ _ _ _ _ _ rd_empty rt0 SlP.nil rc0 (by simp [Tr.sz, Tr.szL]) (by omega) (by simp) (by omega)).mono ?_
      rw [E7.out]
      rintro e w8 ⟨rfl, hb⟩
      have hbk8 : Hid (Below (w.heap.size + 3) (((w.alloc (.cells #[.slice A0 a.es.length n0, .slice B0 a.ks.length m0, .slice D0 ac.length k0] 29)).alloc (.cells #[.slice A1 b.es.length n1, .slice B1 b.ks.length m1, .slice D1 bc.length k1] 29)).alloc (.cells #[.slice A2 c.es.length n2, .slice B2 c.ks.length m2, .slice D2 cc.length k2] 29)) w8) := hid (hbk7.out.trans (hb.mono (by first | omega | (simp; done) | (simp; omega))))
      clear hb
      clear hB hs rt0 rc0 rt1 rc1 rt2 rc2 c00 c01 c02 c10 c11 c12 c20 c21 c22
      obtain ⟨hB, hs, rt0, rc0, rt1, rc1, rt2, rc2, c00, c01, c02, c10, c11, c12, c20, c21, c22⟩ := HX0.out _ hbk8.out
      go_wp2_with fail
      go_ret
      exact ⟨rfl, hB⟩
  · cases Q
    · have hpq : S = false := by rw [HS1.out]; rfl
      subst hpq
      go_wp2_with fail
      refine (cleqK_any ac ac a a _ _ _ _ _ _ _ rt0 rt0 rc0 rc0 (by omega) (by omega) (by omega) (by omega)).mono ?_
      rw [E1.out]
      rintro e w6 ⟨rfl, hb⟩
      have hbk6 : Hid (Below (w.heap.size + 3) (((w.alloc (.cells #[.slice A0 a.es.length n0, .slice B0 a.ks.length m0, .slice D0 ac.length k0] 29)).alloc (.cells #[.slice A1 b.es.length n1, .slice B1 b.ks.length m1, .slice D1 bc.length k1] 29)).alloc (.cells #[.slice A2 c.es.length n2, .slice B2 c.ks.length m2, .slice D2 cc.length k2] 29)) w6) := hid (hbr5.out.trans (hb.mono (by first | omega | (simp; done) | (simp; omega))))
      clear hb
      clear hB hs rt0 rc0 rt1 rc1 rt2 rc2 c00 c01 c02 c10 c11 c12 c20 c21 c22
      obtain ⟨hB, hs, rt0, rc0, rt1, rc1, rt2, rc2, c00, c01, c02, c10, c11, c12, c20, c21, c22⟩ := HX0.out _ hbk6.out
      go_wp2_with fail
      refine (csame_any ac bc a b _ _ _ _ _ _ _ rt0 rt1 rc0 rc1 (by omega) (by omega) (by omega) (by omega)).mono ?_
      rw [E4.out]
      rintro e w7 ⟨rfl, hb⟩
      have hbk7 : Hid (Below (w.heap.size + 3) (((w.alloc (.cells #[.slice A0 a.es.length n0, .slice B0 a.ks.length m0, .slice D0 ac.length k0] 29)).alloc (.cells #[.slice A1 b.es.length n1, .slice B1 b.ks.length m1, .slice D1 bc.length k1] 29)).alloc (.cells #[.slice A2 c.es.length n2, .slice B2 c.ks.length m2, .slice D2 cc.length k2] 29)) w7) := hid (hbk6.out.trans (hb.mono (by first | omega | (simp; done) | (simp; omega))))
      clear hb
      clear hB hs rt0 rc0 rt1 rc1 rt2 rc2 c00 c01 c02 c10 c11 c12 c20 c21 c22
      obtain ⟨hB, hs, rt0, rc0, rt1, rc1, rt2, rc2, c00, c01, c02, c10, c11, c12, c20, c21, c22⟩ := HX0.out _ hbk7.out
      cases R
      · go_wp2_with fail
        refine (cleqK_any bc cc b c _ _ _ _ _ _ _ rt1 rt2 rc1 rc2 (by omega) (by omega) (by omega) (by omega)).mono ?_
        rw [E5.out]
        rintro e w8 ⟨rfl, hb⟩
        have hbk8 : Hid (Below (w.heap.size + 3) (((w.alloc (.cells #[.slice A0 a.es.length n0, .slice B0 a.ks.length m0, .slice D0 ac.length k0] 29)).alloc (.cells #[.slice A1 b.es.length n1, .slice B1 b.ks.length m1, .slice D1 bc.length k1] 29)).alloc (.cells #[.slice A2 c.es.length n2, .slice B2 c.ks.length m2, .slice D2 cc.length k2] 29)) w8) := hid (hbk7.out.trans (hb.mono (by first | omega | (simp; done) | (simp; omega))))
        clear hb
        clear hB hs rt0 rc0 rt1 rc1 rt2 rc2 c00 c01 c02 c10 c11 c12 c20 c21 c22
        obtain ⟨hB, hs, rt0, rc0, rt1, rc1, rt2, rc2, c00, c01, c02, c10, c11, c12, c20, c21, c22⟩ := HX0.out _ hbk8.out
        go_wp2_with fail
        refine (cleqK_any [] ac (.mk [] []) a _ _ _ _ _ _ _ rd_empty rt0 SlP.nil rc0 (by simp [Tr.sz, Tr.szL]) (by omega) (by simp) (by omega)).mono ?_
        rw [E7.out]
        rintro e w9 ⟨rfl, hb⟩
        have hbk9 : Hid (Below (w.heap.size + 3) (((w.alloc (.cells #[.slice A0 a.es.length n0, .slice B0 a.ks.length m0, .slice D0 ac.length k0] 29)).alloc (.cells #[.slice A1 b.es.length n1, .slice B1 b.ks.length m1, .slice D1 bc.length k1] 29)).alloc (.cells #[.slice A2 c.es.length n2, .slice B2 c.ks.length m2, .slice D2 cc.length k2] 29)) w9) := hid (hbk8.out.trans (hb.mono (by first | omega | (simp; done) | (simp; omega))))
        clear hb
        clear hB hs rt0 rc0 rt1 rc1 rt2 rc2 c00 c01 c02 c10 c11 c12 c20 c21 c22
        obtain ⟨hB, hs, rt0, rc0, rt1, rc1, rt2, rc2, c00, c01, c02, c10, c11, c12, c20, c21, c22⟩ := HX0.out _ hbk9.out
        go_wp2_with fail
        go_ret
        exact ⟨rfl, hB⟩
      · go_wp2_with fail
        refine (cleqK_any bc cc b c _ _ _ _ _ _ _ rt1 rt2 rc1 rc2 (by omega) (by omega) (by omega) (by omega)).mono ?_
        rw [E5.out]
        rintro e w8 ⟨rfl, hb⟩
        have hbk8 : Hid (Below (w.heap.size + 3) (((w.alloc (.cells #[.slice A0 a.es.length n0, .slice B0 a.ks.length m0, .slice D0 ac.length k0] 29)).alloc (.cells #[.slice A1 b.es.length n1, .slice B1 b.ks.length m1, .slice D1 bc.length k1] 29)).alloc (.cells #[.slice A2 c.es.length n2, .slice B2 c.ks.length m2, .slice D2 cc.length k2] 29)) w8) := hid (hbk7.out.trans (hb.mono (by first | omega | (simp; done) | (simp; omega))))
        clear hb
        clear hB hs rt0 rc0 rt1 rc1 rt2 rc2 c00 c01 c02 c10 c11 c12 c20 c21 c22
        obtain ⟨hB, hs, rt0, rc0, rt1, rc1, rt2, rc2, c00, c01, c02, c10, c11, c12, c20, c21, c22⟩ := HX0.out _ hbk8.out
        have HS6 := hid (HS2.out (by simp) (by simp))
        go_wp2_with fail
        refine (cleqK_any ac cc a c _ _ _ _ _ _ _ rt0 rt2 rc0 rc2 (by omega) (by omega) (by omega) (by omega)).mono ?_
        rw [HS6.out]
        rintro e w9 ⟨rfl, hb⟩
        have hbk9 : Hid (Below (w.heap.size + 3) (((w.alloc (.cells #[.slice A0 a.es.length n0, .slice B0 a.ks.length m0, .slice D0 ac.length k0] 29)).alloc (.cells #[.slice A1 b.es.length n1, .slice B1 b.ks.length m1, .slice D1 bc.length k1] 29)).alloc (.cells #[.slice A2 c.es.length n2, .slice B2 c.ks.length m2, .slice D2 cc.length k2] 29)) w9) := hid (hbk8.out.trans (hb.mono (by first | omega | (simp; done) | (simp; omega))))
        clear hb
        clear hB hs rt0 rc0 rt1 rc1 rt2 rc2 c00 c01 c02 c10 c11 c12 c20 c21 c22
        obtain ⟨hB, hs, rt0, rc0, rt1, rc1, rt2, rc2, c00, c01, c02, c10, c11, c12, c20, c21, c22⟩ := HX0.out _ hbk9.out
        go_wp2_with fail
        refine (cleqK_any [] ac (.mk [] []) a _ _ _ _ _ _ _ rd_empty rt0 SlP.nil rc0 (by simp [Tr.sz, Tr.szL]) (by omega) (by simp) (by omega)).mono ?_
        rw [E7.out]
        rintro e w10 ⟨rfl, hb⟩
        have hbk10 : Hid (Below (w.heap.size + 3) (((w.alloc (.cells #[.slice A0 a.es.length n0, .slice B0 a.ks.length m0, .slice D0 ac.length k0] 29)).alloc (.cells #[.slice A1 b.es.length n1, .slice B1 b.ks.length m1, .slice D1 bc.length k1] 29)).alloc (.cells #[.slice A2 c.es.length n2, .slice B2 c.ks.length m2, .slice D2 cc.length k2] 29)) w10) := hid (hbk9.out.trans (hb.mono (by first | omega | (simp; done) | (simp; omega))))
        clear hb
        clear hB hs rt0 rc0 rt1 rc1 rt2 rc2 c00 c01 c02 c10 c11 c12 c20 c21 c22
        obtain ⟨hB, hs, rt0, rc0, rt1, rc1, rt2, rc2, c00, c01, c02, c10, c11, c12, c20, c21, c22⟩ := HX0.out _ hbk10.out
        go_wp2_with fail
        go_ret
        exact ⟨rfl, hB⟩
    · have hpq : S = true := by rw [HS1.out]; rfl
      subst hpq
      go_wp2_with fail
      refine (cleqK_any ac ac a a _ _ _ _ _ _ _ rt0 rt0 rc0 rc0 (by omega) (by omega) (by omega) (by omega)).mono ?_
      rw [E1.out]
      rintro e w6 ⟨rfl, hb⟩
      have hbk6 : Hid (Below (w.heap.size + 3) (((w.alloc (.cells #[.slice A0 a.es.length n0, .slice B0 a.ks.length m0, .slice D0 ac.length k0] 29)).alloc (.cells #[.slice A1 b.es.length n1, .slice B1 b.ks.length m1, .slice D1 bc.length k1] 29)).alloc (.cells #[.slice A2 c.es.length n2, .slice B2 c.ks.length m2, .slice D2 cc.length k2] 29)) w6) := hid (hbr5.out.trans (hb.mono (by first | omega | (simp; done) | (simp; omega))))
      clear hb
      clear hB hs rt0 rc0 rt1 rc1 rt2 rc2 c00 c01 c02 c10 c11 c12 c20 c21 c22
      obtain ⟨hB, hs, rt0, rc0, rt1, rc1, rt2, rc2, c00, c01, c02, c10, c11, c12, c20, c21, c22⟩ := HX0.out _ hbk6.out
      go_wp2_with fail
      refine (csame_any ac bc a b _ _ _ _ _ _ _ rt0 rt1 rc0 rc1 (by omega) (by omega) (by omega) (by omega)).mono ?_
      rw [E4.out]
      rintro e w7 ⟨rfl, hb⟩
      have hbk7 : Hid (Below (w.heap.size + 3) (((w.alloc (.cells #[.slice A0 a.es.length n0, .slice B0 a.ks.length m0, .slice D0 ac.length k0] 29)).alloc (.cells #[.slice A1 b.es.length n1, .slice B1 b.ks.length m1, .slice D1 bc.length k1] 29)).alloc (.cells #[.slice A2 c.es.length n2, .slice B2 c.ks.length m2, .slice D2 cc.length k2] 29)) w7) := hid (hbk6.out.trans (hb.mono (by first | omega | (simp; done) | (simp; omega))))
      clear hb
      clear hB hs rt0 rc0 rt1 rc1 rt2 rc2 c00 c01 c02 c10 c11 c12 c20 c21 c22
      obtain ⟨hB, hs, rt0, rc0, rt1, rc1, rt2, rc2, c00, c01, c02, c10, c11, c12, c20, c21, c22⟩ := HX0.out _ hbk7.out
      cases R
      · go_wp2_with fail
        refine (cleqK_any bc cc b c _ _ _ _ _ _ _ rt1 rt2 rc1 rc2 (by omega) (by omega) (by omega) (by omega)).mono ?_
        rw [E5.out]
        rintro e w8 ⟨rfl, hb⟩
        have hbk8 : Hid (Below (w.heap.size + 3) (((w.alloc (.cells #[.slice A0 a.es.length n0, .slice B0 a.ks.length m0, .slice D0 ac.length k0] 29)).alloc (.cells #[.slice A1 b.es.length n1, .slice B1 b.ks.length m1, .slice D1 bc.length k1] 29)).alloc (.cells #[.slice A2 c.es.length n2, .slice B2 c.ks.length m2, .slice D2 cc.length k2] 29)) w8) := hid (hbk7.out.trans (hb.mono (by first | omega | (simp; done) | (simp; omega))))
        clear hb
        clear hB hs rt0 rc0 rt1 rc1 rt2 rc2 c00 c01 c02 c10 c11 c12 c20 c21 c22
        obtain ⟨hB, hs, rt0, rc0, rt1, rc1, rt2, rc2, c00, c01, c02, c10, c11, c12, c20, c21, c22⟩ := HX0.out _ hbk8.out
        go_wp2_with fail
        refine (cleqK_any [] ac (.mk [] []) a _ _ _ _ _ _ _ rd_empty rt0 SlP.nil rc0 (by simp [Tr.sz, Tr.szL]) (by omega) (by simp) (by omega)).mono ?_
        rw [E7.out]
        rintro e w9 ⟨rfl, hb⟩
        have hbk9 : Hid (Below (w.heap.size + 3) (((w.alloc (.cells #[.slice A0 a.es.length n0, .slice B0 a.ks.length m0, .slice D0 ac.length k0] 29)).alloc (.cells #[.slice A1 b.es.length n1, .slice B1 b.ks.length m1, .slice D1 bc.length k1] 29)).alloc (.cells #[.slice A2 c.es.length n2, .slice B2 c.ks.length m2, .slice D2 cc.length k2] 29)) w9) := hid (hbk8.out.trans (hb.mono (by first | omega | (simp; done) | (simp; omega))))
        clear hb
        clear hB hs rt0 rc0 rt1 rc1 rt2 rc2 c00 c01 c02 c10 c11 c12 c20 c21 c22
        obtain ⟨hB, hs, rt0, rc0, rt1, rc1, rt2, rc2, c00, c01, c02, c10, c11, c12, c20, c21, c22⟩ := HX0.out _ hbk9.out
        go_wp2_with fail
        go_ret
        exact ⟨rfl, hB⟩
      · go_wp2_with fail
        refine (cleqK_any bc cc b c _ _ _ _ _ _ _ rt1 rt2 rc1 rc2 (by omega) (by omega) (by omega) (by omega)).mono ?_
        rw [E5.out]
        rintro e w8 ⟨rfl, hb⟩
        have hbk8 : Hid (Below (w.heap.size + 3) (((w.alloc (.cells #[.slice A0 a.es.length n0, .slice B0 a.ks.length m0, .slice D0 ac.length k0] 29)).alloc (.cells #[.slice A1 b.es.length n1, .slice B1 b.ks.length m1, .slice D1 bc.length k1] 29)).alloc (.cells #[.slice A2 c.es.length n2, .slice B2 c.ks.length m2, .slice D2 cc.length k2] 29)) w8) := hid (hbk7.out.trans (hb.mono (by first | omega | (simp; done) | (simp; omega))))
        clear hb
        clear hB hs rt0 rc0 rt1 rc1 rt2 rc2 c00 c01 c02 c10 c11 c12 c20 c21 c22
        obtain ⟨hB, hs, rt0, rc0, rt1, rc1, rt2, rc2, c00, c01, c02, c10, c11, c12, c20, c21, c22⟩ := HX0.out _ hbk8.out
        have HS6 := hid (HS2.out (by simp) (by simp))
        go_wp2_with fail
        refine (cleqK_any ac cc a c _ _ _ _ _ _ _ rt0 rt2 rc0 rc2 (by omega) (by omega) (by omega) (by omega)).mono ?_
        rw [HS6.out]
        rintro e w9 ⟨rfl, hb⟩
        have hbk9 : Hid (Below (w.heap.size + 3) (((w.alloc (.cells #[.slice A0 a.es.length n0, .slice B0 a.ks.length m0, .slice D0 ac.length k0] 29)).alloc (.cells #[.slice A1 b.es.length n1, .slice B1 b.ks.length m1, .slice D1 bc.length k1] 29)).alloc (.cells #[.slice A2 c.es.length n2, .slice B2 c.ks.length m2, .slice D2 cc.length k2] 29)) w9) := hid (hbk8.out.trans (hb.mono (by first | omega | (simp; done) | (simp; omega))))
        clear hb
        clear hB hs rt0 rc0 rt1 rc1 rt2 rc2 c00 c01 c02 c10 c11 c12 c20 c21 c22
        obtain ⟨hB, hs, rt0, rc0, rt1, rc1, rt2, rc2, c00, c01, c02, c10, c11, c12, c20, c21, c22⟩ := HX0.out _ hbk9.out
        go_wp2_with fail
        refine (cleqK_any [] ac (.mk [] []) a _ _ _ _ _ _ _ rd_empty rt0 SlP.nil rc0 (by simp [Tr.sz, Tr.szL]) (by omega) (by simp) (by omega)).mono ?_
        rw [E7.out]
        rintro e w10 ⟨rfl, hb⟩
        have hbk10 : Hid (Below (w.heap.size + 3) (((w.alloc (.cells #[.slice A0 a.es.length n0, .slice B0 a.ks.length m0, .slice D0 ac.length k0] 29)).alloc (.cells #[.slice A1 b.es.length n1, .slice B1 b.ks.length m1, .slice D1 bc.length k1] 29)).alloc (.cells #[.slice A2 c.es.length n2, .slice B2 c.ks.length m2, .slice D2 cc.length k2] 29)) w10) := hid (hbk9.out.trans (hb.mono (by first | omega | (simp; done) | (simp; omega))))
        clear hb
        clear hB hs rt0 rc0 rt1 rc1 rt2 rc2 c00 c01 c02 c10 c11 c12 c20 c21 c22
        obtain ⟨hB, hs, rt0, rc0, rt1, rc1, rt2, rc2, c00, c01, c02, c10, c11, c12, c20, c21, c22⟩ := HX0.out _ hbk10.out
        go_wp2_with fail
        go_ret
        exact ⟨rfl, hB⟩
end Go.Proofs.YtkjijbogbelilaaGreat
