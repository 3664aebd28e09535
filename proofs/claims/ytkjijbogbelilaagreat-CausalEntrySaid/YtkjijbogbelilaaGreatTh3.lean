/- What the laws need, part 3: The law CausalTells answers true. No condition. -/
import Derived.Test.YtkjijbogbelilaaGreatTh2
namespace Go.Proofs.YtkjijbogbelilaaGreat
open Go.RowKit
set_option maxRecDepth 100000

theorem tl_bad {a b : Tr} {ac bc : List Sp} (h : ([(a, ac), (b, bc)] : List Kn).all (fun x => caR x.1 x.2) = false) : Hid (kLeq a b ac bc = false) ∧ Hid (kSame a b ac bc = false) := by
  have h1 := car_two h
  simp only at h1
  have e1 : kLeq a b ac bc = false := by unfold kLeq; rw [← Bool.and_assoc, h1]; rfl
  have e2 : kSame a b ac bc = false := by unfold kSame; rw [← Bool.and_assoc, h1]; rfl
  exact ⟨e1, e2⟩
theorem tl_good {a b : Tr} {ac bc : List Sp} (h : ([(a, ac), (b, bc)] : List Kn).all (fun x => caR x.1 x.2) = true) : ∃ (T : Tr) (C : List Sp) (P Q : Bool), Hid (kLeq a b ac bc = P) ∧ Hid (kSame a b ac bc = Q) ∧ Hid (buildL (r9L (a.lvs []) (b.lvs []) ac bc) = T) ∧ Hid (ctxBy ac bc 0 = C) ∧ Hid ((trEq T b && decide (C = bc)) = P) ∧ Hid ((trEq a b && decide (ac = bc)) = Q) ∧ Hid (SpsOk ac) ∧ Hid (SpsOk bc) := by
  have h1 := car_two h
  rw [Bool.and_eq_true] at h1
  have ha : KOk (a, ac) := caR_iff.1 h1.1
  have hb : KOk (b, bc) := caR_iff.1 h1.2
  have hl : kLeq a b ac bc = (trEq (jn (a, ac) (b, bc)).1 b && decide ((jn (a, ac) (b, bc)).2 = bc)) := by unfold kLeq; rw [h1.1, h1.2]; rfl
  have hs : kSame a b ac bc = (trEq a b && decide (ac = bc)) := by unfold kSame; rw [h1.1, h1.2]; rfl
  exact ⟨(jn (a, ac) (b, bc)).1, (jn (a, ac) (b, bc)).2, _, _, rfl, rfl, r9_join ha hb, rfl, hl.symm, hs.symm, spsOk_apart ha.ap, spsOk_apart hb.ap⟩
set_option maxHeartbeats 4000000 in
theorem lawTL_any (a : Tr) (ac : List Sp) (b : Tr) (bc : List Sp) (w : World) (ve0 vk0 vc0 ve1 vk1 vc1 : Value) (h0 : a.rd w w.heap.size ve0 vk0) (hc0 : SlP w w.heap.size 3 SpE vc0 ac) (h1 : b.rd w w.heap.size ve1 vk1) (hc1 : SlP w w.heap.size 3 SpE vc1 bc) :
    Calls Tryz.prog 5 #[.agg #[ve0, vk0, vc0], .agg #[ve1, vk1, vc1]] w fun e w' => e = .returned (.bool true) ∧ Below w.heap.size w w' := by
  have HC0 : Hid (∀ w', Below w.heap.size w w' → a.rd w' w'.heap.size ve0 vk0) := fun w' hb => rd_below hb hb.size _ _ _ h0
  have HD0 : Hid (∀ w', Below w.heap.size w w' → SlP w' w'.heap.size 3 SpE vc0 ac) := fun w' hb => hc0.imp hb hb.size fun _ _ _ h => h
  obtain ⟨A0, n0, B0, m0, rfl, rfl⟩ := rd_shape h0
  obtain ⟨D0, k0, rfl, _⟩ := hc0
  clear h0
  have HC1 : Hid (∀ w', Below w.heap.size w w' → b.rd w' w'.heap.size ve1 vk1) := fun w' hb => rd_below hb hb.size _ _ _ h1
  have HD1 : Hid (∀ w', Below w.heap.size w w' → SlP w' w'.heap.size 3 SpE vc1 bc) := fun w' hb => hc1.imp hb hb.size fun _ _ _ h => h
  obtain ⟨A1, n1, B1, m1, rfl, rfl⟩ := rd_shape h1
  obtain ⟨D1, k1, rfl, _⟩ := hc1
  clear h1
  have HX0 : Hid (∀ W, Below (w.heap.size + 2) ((w.alloc (.cells #[.slice A0 a.es.length n0, .slice B0 a.ks.length m0, .slice D0 ac.length k0] 29)).alloc (.cells #[.slice A1 b.es.length n1, .slice B1 b.ks.length m1, .slice D1 bc.length k1] 29)) W → (Below w.heap.size w W ∧ w.heap.size + 2 ≤ (W).heap.size ∧ a.rd W (W).heap.size (.slice A0 a.es.length n0) (.slice B0 a.ks.length m0) ∧ SlP W (W).heap.size 3 SpE (.slice D0 ac.length k0) ac ∧ b.rd W (W).heap.size (.slice A1 b.es.length n1) (.slice B1 b.ks.length m1) ∧ SlP W (W).heap.size 3 SpE (.slice D1 bc.length k1) bc ∧ (W).cell? ⟨w.heap.size, 0, none⟩ = some (.slice A0 a.es.length n0) ∧ (W).cell? ⟨w.heap.size, 1, none⟩ = some (.slice B0 a.ks.length m0) ∧ (W).cell? ⟨w.heap.size, 2, none⟩ = some (.slice D0 ac.length k0) ∧ (W).cell? ⟨(w.heap.size + 1), 0, none⟩ = some (.slice A1 b.es.length n1) ∧ (W).cell? ⟨(w.heap.size + 1), 1, none⟩ = some (.slice B1 b.ks.length m1) ∧ (W).cell? ⟨(w.heap.size + 1), 2, none⟩ = some (.slice D1 bc.length k1))) := fun W hW => by
    have g0 : W.heap[w.heap.size]? = some (.cells #[.slice A0 a.es.length n0, .slice B0 a.ks.length m0, .slice D0 ac.length k0] 29 (0, 0)) := (hW.block _ (by omega)).trans ((heap_old (by simp <;> omega)).trans (heap_new rfl))
    have g1 : W.heap[(w.heap.size + 1)]? = some (.cells #[.slice A1 b.es.length n1, .slice B1 b.ks.length m1, .slice D1 bc.length k1] 29 (0, 0)) := (hW.block _ (by omega)).trans (heap_new (by simp))
    have hB : Below w.heap.size w W := (((Below.refl _ w).alloc (Nat.le_refl _) _).alloc (by simp <;> omega) _).trans (hW.mono (by omega))
    exact ⟨hB, by have := hW.size; simpa using this, HC0.out _ hB, HD0.out _ hB, HC1.out _ hB, HD1.out _ hB, cell_cells (i := 0) g0, cell_cells (i := 1) g0, cell_cells (i := 2) g0, cell_cells (i := 0) g1, cell_cells (i := 1) g1, cell_cells (i := 2) g1⟩
  have hnb1 : w.heap.size + 1 ≠ w.heap.size := by omega
  go_enter Tryz.func5, Tryz.ntmps5
  obtain ⟨SM, HSM⟩ : ∃ q : Bool, Hid (([(a, ac), (b, bc)] : List Kn).all (fun x => sml9 x.1 x.2 40) = q) := ⟨_, rfl⟩
  obtain ⟨RM, HRM⟩ : ∃ q : Bool, Hid (([(a, ac), (b, bc)] : List Kn).all (fun x => caR x.1 x.2) = q) := ⟨_, rfl⟩
  go_wp2_with fail
  obtain ⟨hB, hs, rt0, rc0, rt1, rc1, c00, c01, c02, c10, c11, c12⟩ := HX0.out _ (Below.refl _ _)
  refine (awake09_any _).mono ?_
  rintro e w1 ⟨rfl, hb⟩
  have hbk1 : Hid (Below (w.heap.size + 2) ((w.alloc (.cells #[.slice A0 a.es.length n0, .slice B0 a.ks.length m0, .slice D0 ac.length k0] 29)).alloc (.cells #[.slice A1 b.es.length n1, .slice B1 b.ks.length m1, .slice D1 bc.length k1] 29)) w1) := hid (hb.mono (by first | omega | (simp; done) | (simp; omega)))
  clear hb
  clear hB hs rt0 rc0 rt1 rc1 c00 c01 c02 c10 c11 c12
  obtain ⟨hB, hs, rt0, rc0, rt1, rc1, c00, c01, c02, c10, c11, c12⟩ := HX0.out _ hbk1.out
  go_wp2_with fail
  have hsl_le : (w.heap.size + 2) ≤ (w1).heap.size := (by first | omega | (simp; done) | (simp; omega))
  clear hB hs rt0 rc0 rt1 rc1 c00 c01 c02 c10 c11 c12
  obtain ⟨hB, hs, rt0, rc0, rt1, rc1, c00, c01, c02, c10, c11, c12⟩ := HX0.out _ (hbk1.out.alloc hsl_le (.cells #[.slice A0 a.es.length n0, .slice B0 a.ks.length m0, .slice D0 ac.length k0, .slice A1 b.es.length n1, .slice B1 b.ks.length m1, .slice D1 bc.length k1] 29))
  refine (small09_any [(a, ac), (b, bc)] _ _ (slp2 (heap_new rfl) (kn_at rt0 rc0) (kn_at rt1 rc1) (by simp))).mono ?_
  rw [HSM.out]
  rintro e w2 ⟨rfl, hb⟩
  have hbk2 : Hid (Below (w.heap.size + 2) ((w.alloc (.cells #[.slice A0 a.es.length n0, .slice B0 a.ks.length m0, .slice D0 ac.length k0] 29)).alloc (.cells #[.slice A1 b.es.length n1, .slice B1 b.ks.length m1, .slice D1 bc.length k1] 29)) w2) := hid ((hbk1.out.alloc hsl_le (.cells #[.slice A0 a.es.length n0, .slice B0 a.ks.length m0, .slice D0 ac.length k0, .slice A1 b.es.length n1, .slice B1 b.ks.length m1, .slice D1 bc.length k1] 29)).trans (hb.mono (by first | omega | (simp; done) | (simp; omega))))
  clear hb
  clear hB hs rt0 rc0 rt1 rc1 c00 c01 c02 c10 c11 c12
  obtain ⟨hB, hs, rt0, rc0, rt1, rc1, c00, c01, c02, c10, c11, c12⟩ := HX0.out _ hbk2.out
  cases SM
  · skip
    go_wp2_with fail
    refine (awake09_any _).mono ?_
    rintro e w3 ⟨rfl, hb⟩
    have hbk3 : Hid (Below (w.heap.size + 2) ((w.alloc (.cells #[.slice A0 a.es.length n0, .slice B0 a.ks.length m0, .slice D0 ac.length k0] 29)).alloc (.cells #[.slice A1 b.es.length n1, .slice B1 b.ks.length m1, .slice D1 bc.length k1] 29)) w3) := hid (hbk2.out.trans (hb.mono (by first | omega | (simp; done) | (simp; omega))))
    clear hb
    clear hB hs rt0 rc0 rt1 rc1 c00 c01 c02 c10 c11 c12
    obtain ⟨hB, hs, rt0, rc0, rt1, rc1, c00, c01, c02, c10, c11, c12⟩ := HX0.out _ hbk3.out
    go_wp2_with fail
    go_ret
    exact ⟨rfl, hB⟩
  obtain ⟨⟨z1, z2⟩, z3, z4⟩ := sml_all2 HSM.out
  simp only at z1 z2 z3 z4
  go_wp2_with fail
  have hsl_le : (w.heap.size + 2) ≤ (w2).heap.size := (by first | omega | (simp; done) | (simp; omega))
  clear hB hs rt0 rc0 rt1 rc1 c00 c01 c02 c10 c11 c12
  obtain ⟨hB, hs, rt0, rc0, rt1, rc1, c00, c01, c02, c10, c11, c12⟩ := HX0.out _ (hbk2.out.alloc hsl_le (.cells #[.slice A0 a.es.length n0, .slice B0 a.ks.length m0, .slice D0 ac.length k0, .slice A1 b.es.length n1, .slice B1 b.ks.length m1, .slice D1 bc.length k1] 29))
  refine (right09_any [(a, ac), (b, bc)] _ _ (slp2 (heap_new rfl) (kn_at rt0 rc0) (kn_at rt1 rc1) (by simp)) (fun x hx => by simp at hx; rcases hx with rfl | rfl <;> exact ⟨by simp only; omega, by simp only; omega⟩)).mono ?_
  rw [HRM.out]
  rintro e w3 ⟨rfl, hb⟩
  have hbk3 : Hid (Below (w.heap.size + 2) ((w.alloc (.cells #[.slice A0 a.es.length n0, .slice B0 a.ks.length m0, .slice D0 ac.length k0] 29)).alloc (.cells #[.slice A1 b.es.length n1, .slice B1 b.ks.length m1, .slice D1 bc.length k1] 29)) w3) := hid ((hbk2.out.alloc hsl_le (.cells #[.slice A0 a.es.length n0, .slice B0 a.ks.length m0, .slice D0 ac.length k0, .slice A1 b.es.length n1, .slice B1 b.ks.length m1, .slice D1 bc.length k1] 29)).trans (hb.mono (by first | omega | (simp; done) | (simp; omega))))
  clear hb
  clear hB hs rt0 rc0 rt1 rc1 c00 c01 c02 c10 c11 c12
  obtain ⟨hB, hs, rt0, rc0, rt1, rc1, c00, c01, c02, c10, c11, c12⟩ := HX0.out _ hbk3.out
  cases RM
  · obtain ⟨HL, HS⟩ := tl_bad HRM.out
    go_wp2_with fail
    refine (cleqK_any ac bc a b _ _ _ _ _ _ _ rt0 rt1 rc0 rc1 (by omega) (by omega) (by omega) (by omega)).mono ?_
    rw [HL.out]
    rintro e w4 ⟨rfl, hb⟩
    have hbk4 : Hid (Below (w.heap.size + 2) ((w.alloc (.cells #[.slice A0 a.es.length n0, .slice B0 a.ks.length m0, .slice D0 ac.length k0] 29)).alloc (.cells #[.slice A1 b.es.length n1, .slice B1 b.ks.length m1, .slice D1 bc.length k1] 29)) w4) := hid (hbk3.out.trans (hb.mono (by first | omega | (simp; done) | (simp; omega))))
    clear hb
    clear hB hs rt0 rc0 rt1 rc1 c00 c01 c02 c10 c11 c12
    obtain ⟨hB, hs, rt0, rc0, rt1, rc1, c00, c01, c02, c10, c11, c12⟩ := HX0.out _ hbk4.out
    go_wp2_with fail
    refine (csame_any ac bc a b _ _ _ _ _ _ _ rt0 rt1 rc0 rc1 (by omega) (by omega) (by omega) (by omega)).mono ?_
    rw [HS.out]
    rintro e w5 ⟨rfl, hb⟩
    have hbk5 : Hid (Below (w.heap.size + 2) ((w.alloc (.cells #[.slice A0 a.es.length n0, .slice B0 a.ks.length m0, .slice D0 ac.length k0] 29)).alloc (.cells #[.slice A1 b.es.length n1, .slice B1 b.ks.length m1, .slice D1 bc.length k1] 29)) w5) := hid (hbk4.out.trans (hb.mono (by first | omega | (simp; done) | (simp; omega))))
    clear hb
    clear hB hs rt0 rc0 rt1 rc1 c00 c01 c02 c10 c11 c12
    obtain ⟨hB, hs, rt0, rc0, rt1, rc1, c00, c01, c02, c10, c11, c12⟩ := HX0.out _ hbk5.out
    go_wp2_with fail
    go_ret
    exact ⟨rfl, hB⟩
  · obtain ⟨T, C, P, Q, HL, HS, HBL, HBC, HRL, HRS, HO1, HO2⟩ := tl_good HRM.out
    cases P
    · cases Q
      · skip
        go_upto_region 5 with (fail)
        have HK1 : Hid (∀ W, Below (w.heap.size + 2) ((w.alloc (.cells #[.slice A0 a.es.length n0, .slice B0 a.ks.length m0, .slice D0 ac.length k0] 29)).alloc (.cells #[.slice A1 b.es.length n1, .slice B1 b.ks.length m1, .slice D1 bc.length k1] 29)) W → ((W).cell? ⟨w.heap.size, 0, none⟩ = some (.slice A0 a.es.length n0) ∧ (W).cell? ⟨w.heap.size, 1, none⟩ = some (.slice B0 a.ks.length m0) ∧ (W).cell? ⟨w.heap.size, 2, none⟩ = some (.slice D0 ac.length k0) ∧ (W).cell? ⟨(w.heap.size + 1), 0, none⟩ = some (.slice A1 b.es.length n1) ∧ (W).cell? ⟨(w.heap.size + 1), 1, none⟩ = some (.slice B1 b.ks.length m1) ∧ (W).cell? ⟨(w.heap.size + 1), 2, none⟩ = some (.slice D1 bc.length k1))) := fun W hW => by
          obtain ⟨_, _, _, _, _, _, z_c00, z_c01, z_c02, z_c10, z_c11, z_c12⟩ := HX0.out W hW
          exact ⟨z_c00, z_c01, z_c02, z_c10, z_c11, z_c12⟩
        have Hrt0_1 : Hid (∀ W, Below (w.heap.size + 2) ((w.alloc (.cells #[.slice A0 a.es.length n0, .slice B0 a.ks.length m0, .slice D0 ac.length k0] 29)).alloc (.cells #[.slice A1 b.es.length n1, .slice B1 b.ks.length m1, .slice D1 bc.length k1] 29)) W → a.rd W (W).heap.size (.slice A0 a.es.length n0) (.slice B0 a.ks.length m0)) := fun W hW => by
          obtain ⟨_, _, z, _, _, _, _, _, _, _, _, _⟩ := HX0.out W hW
          exact z
        have Hrc0_1 : Hid (∀ W, Below (w.heap.size + 2) ((w.alloc (.cells #[.slice A0 a.es.length n0, .slice B0 a.ks.length m0, .slice D0 ac.length k0] 29)).alloc (.cells #[.slice A1 b.es.length n1, .slice B1 b.ks.length m1, .slice D1 bc.length k1] 29)) W → SlP W (W).heap.size 3 SpE (.slice D0 ac.length k0) ac) := fun W hW => by
          obtain ⟨_, _, _, z, _, _, _, _, _, _, _, _⟩ := HX0.out W hW
          exact z
        have Hrt1_1 : Hid (∀ W, Below (w.heap.size + 2) ((w.alloc (.cells #[.slice A0 a.es.length n0, .slice B0 a.ks.length m0, .slice D0 ac.length k0] 29)).alloc (.cells #[.slice A1 b.es.length n1, .slice B1 b.ks.length m1, .slice D1 bc.length k1] 29)) W → b.rd W (W).heap.size (.slice A1 b.es.length n1) (.slice B1 b.ks.length m1)) := fun W hW => by
          obtain ⟨_, _, _, _, z, _, _, _, _, _, _, _⟩ := HX0.out W hW
          exact z
        have Hrc1_1 : Hid (∀ W, Below (w.heap.size + 2) ((w.alloc (.cells #[.slice A0 a.es.length n0, .slice B0 a.ks.length m0, .slice D0 ac.length k0] 29)).alloc (.cells #[.slice A1 b.es.length n1, .slice B1 b.ks.length m1, .slice D1 bc.length k1] 29)) W → SlP W (W).heap.size 3 SpE (.slice D1 bc.length k1) bc) := fun W hW => by
          obtain ⟨_, _, _, _, _, z, _, _, _, _, _, _⟩ := HX0.out W hW
          exact z
        have HS_1 : Hid (∀ W, Below (w.heap.size + 2) ((w.alloc (.cells #[.slice A0 a.es.length n0, .slice B0 a.ks.length m0, .slice D0 ac.length k0] 29)).alloc (.cells #[.slice A1 b.es.length n1, .slice B1 b.ks.length m1, .slice D1 bc.length k1] 29)) W → (w.heap.size + 2) ≤ W.heap.size) := fun W hW => by
          have := hW.size
          first | omega | (simp at this; omega)
        have hsb1 := HS_1.out _ hbk3.out
        clear hB rt0 rc0 rt1 rc1
        go_region_held3 (fun W => (W).cell? ⟨w.heap.size, 0, none⟩ = some (.slice A0 a.es.length n0) ∧ (W).cell? ⟨w.heap.size, 1, none⟩ = some (.slice B0 a.ks.length m0) ∧ (W).cell? ⟨w.heap.size, 2, none⟩ = some (.slice D0 ac.length k0) ∧ (W).cell? ⟨(w.heap.size + 1), 0, none⟩ = some (.slice A1 b.es.length n1) ∧ (W).cell? ⟨(w.heap.size + 1), 1, none⟩ = some (.slice B1 b.ks.length m1) ∧ (W).cell? ⟨(w.heap.size + 1), 2, none⟩ = some (.slice D1 bc.length k1))
          (first | go_keep | exact HK1.out _ hbr7.out | exact HK1.out _ (hbr7.out.trans (by go_grown)) | exact HK1.out _ hbr6.out | exact HK1.out _ (hbr6.out.trans (by go_grown)) | exact HK1.out _ hbr5.out | exact HK1.out _ (hbr5.out.trans (by go_grown)) | exact HK1.out _ hbr4.out | exact HK1.out _ (hbr4.out.trans (by go_grown)) | exact HK1.out _ (((hbr7.out.setCell (by first | (simp; done) | (simp; omega)) _).setCell (by first | (simp; done) | (simp; omega)) _).setCell (by first | (simp; done) | (simp; omega)) _) | exact HK1.out _ (hbk3.out.trans (by go_grown)) | fail)
          (first
            | (go_at_call 27; go_loud ((refine (r09same_any a b ac bc _ _ _ _ _ _ _ (Hrt0_1.out _ (hbr6.out.trans (by go_grown))) (Hrt1_1.out _ (hbr6.out.trans (by go_grown))) (Hrc0_1.out _ (hbr6.out.trans (by go_grown))) (Hrc1_1.out _ (hbr6.out.trans (by go_grown)))).mono ?_); rw [HRS.out]; rintro e w7 ⟨rfl, hb⟩; have hbr7 : Hid (Below (w.heap.size + 2) ((w.alloc (.cells #[.slice A0 a.es.length n0, .slice B0 a.ks.length m0, .slice D0 ac.length k0] 29)).alloc (.cells #[.slice A1 b.es.length n1, .slice B1 b.ks.length m1, .slice D1 bc.length k1] 29)) w7) := hid (Below.trans (hbr6.out.trans (by go_grown)) (hb.mono (by first | omega | (simp; done) | (simp; omega)))); have hsr7 := HS_1.out _ hbr7.out; have hch6_7 : Hid (Below w6.heap.size w6 w7) := hid (Below.trans (by go_grown) (hb.mono (by first | omega | (simp; done) | (simp; omega)))); have hch4_7 : Hid (Below w4.heap.size w4 w7) := hid (hch4_6.out.trans (hch6_7.out.mono hch4_6.out.size)); have hch5_7 : Hid (Below w5.heap.size w5 w7) := hid (hch5_6.out.trans (hch6_7.out.mono hch5_6.out.size)); clear hb))
            | (go_at_call 31; go_loud ((refine (csame_any ac bc a b _ _ _ _ _ _ _ (Hrt0_1.out _ (hbr5.out.trans (by go_grown))) (Hrt1_1.out _ (hbr5.out.trans (by go_grown))) (Hrc0_1.out _ (hbr5.out.trans (by go_grown))) (Hrc1_1.out _ (hbr5.out.trans (by go_grown))) (by omega) (by omega) (by omega) (by omega)).mono ?_); rw [HS.out]; rintro e w6 ⟨rfl, hb⟩; have hbr6 : Hid (Below (w.heap.size + 2) ((w.alloc (.cells #[.slice A0 a.es.length n0, .slice B0 a.ks.length m0, .slice D0 ac.length k0] 29)).alloc (.cells #[.slice A1 b.es.length n1, .slice B1 b.ks.length m1, .slice D1 bc.length k1] 29)) w6) := hid (Below.trans (hbr5.out.trans (by go_grown)) (hb.mono (by first | omega | (simp; done) | (simp; omega)))); have hsr6 := HS_1.out _ hbr6.out; have hch5_6 : Hid (Below w5.heap.size w5 w6) := hid (Below.trans (by go_grown) (hb.mono (by first | omega | (simp; done) | (simp; omega)))); have hch4_6 : Hid (Below w4.heap.size w4 w6) := hid (hch4_5.out.trans (hch5_6.out.mono hch4_5.out.size)); clear hb))
            | (go_at_call 32; go_loud ((refine (r09leq_any ac bc a b T C _ _ _ _ _ _ _ (Hrt0_1.out _ (hbr4.out.trans (by go_grown))) (Hrt1_1.out _ (hbr4.out.trans (by go_grown))) (Hrc0_1.out _ (hbr4.out.trans (by go_grown))) (Hrc1_1.out _ (hbr4.out.trans (by go_grown))) (by omega) (by omega) HO1.out HO2.out (by omega) (by omega) HBL HBC).mono ?_); rw [HRL.out]; rintro e w5 ⟨rfl, hb⟩; have hbr5 : Hid (Below (w.heap.size + 2) ((w.alloc (.cells #[.slice A0 a.es.length n0, .slice B0 a.ks.length m0, .slice D0 ac.length k0] 29)).alloc (.cells #[.slice A1 b.es.length n1, .slice B1 b.ks.length m1, .slice D1 bc.length k1] 29)) w5) := hid (Below.trans (hbr4.out.trans (by go_grown)) (hb.mono (by first | omega | (simp; done) | (simp; omega)))); have hsr5 := HS_1.out _ hbr5.out; have hch4_5 : Hid (Below w4.heap.size w4 w5) := hid (Below.trans (by go_grown) (hb.mono (by first | omega | (simp; done) | (simp; omega)))); clear hb))
            | (go_at_call 30; go_loud ((refine (cleqK_any ac bc a b _ _ _ _ _ _ _ (Hrt0_1.out _ (hbk3.out.trans (by go_grown))) (Hrt1_1.out _ (hbk3.out.trans (by go_grown))) (Hrc0_1.out _ (hbk3.out.trans (by go_grown))) (Hrc1_1.out _ (hbk3.out.trans (by go_grown))) (by omega) (by omega) (by omega) (by omega)).mono ?_); rw [HL.out]; rintro e w4 ⟨rfl, hb⟩; have hbr4 : Hid (Below (w.heap.size + 2) ((w.alloc (.cells #[.slice A0 a.es.length n0, .slice B0 a.ks.length m0, .slice D0 ac.length k0] 29)).alloc (.cells #[.slice A1 b.es.length n1, .slice B1 b.ks.length m1, .slice D1 bc.length k1] 29)) w4) := hid (Below.trans (hbk3.out.trans (by go_grown)) (hb.mono (by first | omega | (simp; done) | (simp; omega)))); have hsr4 := HS_1.out _ hbr4.out; clear hb)))
        all_goals (
          obtain ⟨hB, hs, rt0, rc0, rt1, rc1, c00, c01, c02, c10, c11, c12⟩ := HX0.out _ hbr7.out
          go_wp2_with fail
          go_ret
          exact ⟨rfl, hB⟩)
      · skip
        go_upto_region 5 with (fail)
        have HK1 : Hid (∀ W, Below (w.heap.size + 2) ((w.alloc (.cells #[.slice A0 a.es.length n0, .slice B0 a.ks.length m0, .slice D0 ac.length k0] 29)).alloc (.cells #[.slice A1 b.es.length n1, .slice B1 b.ks.length m1, .slice D1 bc.length k1] 29)) W → ((W).cell? ⟨w.heap.size, 0, none⟩ = some (.slice A0 a.es.length n0) ∧ (W).cell? ⟨w.heap.size, 1, none⟩ = some (.slice B0 a.ks.length m0) ∧ (W).cell? ⟨w.heap.size, 2, none⟩ = some (.slice D0 ac.length k0) ∧ (W).cell? ⟨(w.heap.size + 1), 0, none⟩ = some (.slice A1 b.es.length n1) ∧ (W).cell? ⟨(w.heap.size + 1), 1, none⟩ = some (.slice B1 b.ks.length m1) ∧ (W).cell? ⟨(w.heap.size + 1), 2, none⟩ = some (.slice D1 bc.length k1))) := fun W hW => by
          obtain ⟨_, _, _, _, _, _, z_c00, z_c01, z_c02, z_c10, z_c11, z_c12⟩ := HX0.out W hW
          exact ⟨z_c00, z_c01, z_c02, z_c10, z_c11, z_c12⟩
        have Hrt0_1 : Hid (∀ W, Below (w.heap.size + 2) ((w.alloc (.cells #[.slice A0 a.es.length n0, .slice B0 a.ks.length m0, .slice D0 ac.length k0] 29)).alloc (.cells #[.slice A1 b.es.length n1, .slice B1 b.ks.length m1, .slice D1 bc.length k1] 29)) W → a.rd W (W).heap.size (.slice A0 a.es.length n0) (.slice B0 a.ks.length m0)) := fun W hW => by
          obtain ⟨_, _, z, _, _, _, _, _, _, _, _, _⟩ := HX0.out W hW
          exact z
        have Hrc0_1 : Hid (∀ W, Below (w.heap.size + 2) ((w.alloc (.cells #[.slice A0 a.es.length n0, .slice B0 a.ks.length m0, .slice D0 ac.length k0] 29)).alloc (.cells #[.slice A1 b.es.length n1, .slice B1 b.ks.length m1, .slice D1 bc.length k1] 29)) W → SlP W (W).heap.size 3 SpE (.slice D0 ac.length k0) ac) := fun W hW => by
          obtain ⟨_, _, _, z, _, _, _, _, _, _, _, _⟩ := HX0.out W hW
          exact z
        have Hrt1_1 : Hid (∀ W, Below (w.heap.size + 2) ((w.alloc (.cells #[.slice A0 a.es.length n0, .slice B0 a.ks.length m0, .slice D0 ac.length k0] 29)).alloc (.cells #[.slice A1 b.es.length n1, .slice B1 b.ks.length m1, .slice D1 bc.length k1] 29)) W → b.rd W (W).heap.size (.slice A1 b.es.length n1) (.slice B1 b.ks.length m1)) := fun W hW => by
          obtain ⟨_, _, _, _, z, _, _, _, _, _, _, _⟩ := HX0.out W hW
          exact z
        have Hrc1_1 : Hid (∀ W, Below (w.heap.size + 2) ((w.alloc (.cells #[.slice A0 a.es.length n0, .slice B0 a.ks.length m0, .slice D0 ac.length k0] 29)).alloc (.cells #[.slice A1 b.es.length n1, .slice B1 b.ks.length m1, .slice D1 bc.length k1] 29)) W → SlP W (W).heap.size 3 SpE (.slice D1 bc.length k1) bc) := fun W hW => by
          obtain ⟨_, _, _, _, _, z, _, _, _, _, _, _⟩ := HX0.out W hW
          exact z
        have HS_1 : Hid (∀ W, Below (w.heap.size + 2) ((w.alloc (.cells #[.slice A0 a.es.length n0, .slice B0 a.ks.length m0, .slice D0 ac.length k0] 29)).alloc (.cells #[.slice A1 b.es.length n1, .slice B1 b.ks.length m1, .slice D1 bc.length k1] 29)) W → (w.heap.size + 2) ≤ W.heap.size) := fun W hW => by
          have := hW.size
          first | omega | (simp at this; omega)
        have hsb1 := HS_1.out _ hbk3.out
        clear hB rt0 rc0 rt1 rc1
        go_region_held3 (fun W => (W).cell? ⟨w.heap.size, 0, none⟩ = some (.slice A0 a.es.length n0) ∧ (W).cell? ⟨w.heap.size, 1, none⟩ = some (.slice B0 a.ks.length m0) ∧ (W).cell? ⟨w.heap.size, 2, none⟩ = some (.slice D0 ac.length k0) ∧ (W).cell? ⟨(w.heap.size + 1), 0, none⟩ = some (.slice A1 b.es.length n1) ∧ (W).cell? ⟨(w.heap.size + 1), 1, none⟩ = some (.slice B1 b.ks.length m1) ∧ (W).cell? ⟨(w.heap.size + 1), 2, none⟩ = some (.slice D1 bc.length k1))
          (first | go_keep | exact HK1.out _ hbr7.out | exact HK1.out _ (hbr7.out.trans (by go_grown)) | exact HK1.out _ hbr6.out | exact HK1.out _ (hbr6.out.trans (by go_grown)) | exact HK1.out _ hbr5.out | exact HK1.out _ (hbr5.out.trans (by go_grown)) | exact HK1.out _ hbr4.out | exact HK1.out _ (hbr4.out.trans (by go_grown)) | exact HK1.out _ (((hbr7.out.setCell (by first | (simp; done) | (simp; omega)) _).setCell (by first | (simp; done) | (simp; omega)) _).setCell (by first | (simp; done) | (simp; omega)) _) | exact HK1.out _ (hbk3.out.trans (by go_grown)) | fail)
          (first
            | (go_at_call 27; go_loud ((refine (r09same_any a b ac bc _ _ _ _ _ _ _ (Hrt0_1.out _ (hbr6.out.trans (by go_grown))) (Hrt1_1.out _ (hbr6.out.trans (by go_grown))) (Hrc0_1.out _ (hbr6.out.trans (by go_grown))) (Hrc1_1.out _ (hbr6.out.trans (by go_grown)))).mono ?_); rw [HRS.out]; rintro e w7 ⟨rfl, hb⟩; have hbr7 : Hid (Below (w.heap.size + 2) ((w.alloc (.cells #[.slice A0 a.es.length n0, .slice B0 a.ks.length m0, .slice D0 ac.length k0] 29)).alloc (.cells #[.slice A1 b.es.length n1, .slice B1 b.ks.length m1, .slice D1 bc.length k1] 29)) w7) := hid (Below.trans (hbr6.out.trans (by go_grown)) (hb.mono (by first | omega | (simp; done) | (simp; omega)))); have hsr7 := HS_1.out _ hbr7.out; have hch6_7 : Hid (Below w6.heap.size w6 w7) := hid (Below.trans (by go_grown) (hb.mono (by first | omega | (simp; done) | (simp; omega)))); have hch4_7 : Hid (Below w4.heap.size w4 w7) := hid (hch4_6.out.trans (hch6_7.out.mono hch4_6.out.size)); have hch5_7 : Hid (Below w5.heap.size w5 w7) := hid (hch5_6.out.trans (hch6_7.out.mono hch5_6.out.size)); clear hb))
            | (go_at_call 31; go_loud ((refine (csame_any ac bc a b _ _ _ _ _ _ _ (Hrt0_1.out _ (hbr5.out.trans (by go_grown))) (Hrt1_1.out _ (hbr5.out.trans (by go_grown))) (Hrc0_1.out _ (hbr5.out.trans (by go_grown))) (Hrc1_1.out _ (hbr5.out.trans (by go_grown))) (by omega) (by omega) (by omega) (by omega)).mono ?_); rw [HS.out]; rintro e w6 ⟨rfl, hb⟩; have hbr6 : Hid (Below (w.heap.size + 2) ((w.alloc (.cells #[.slice A0 a.es.length n0, .slice B0 a.ks.length m0, .slice D0 ac.length k0] 29)).alloc (.cells #[.slice A1 b.es.length n1, .slice B1 b.ks.length m1, .slice D1 bc.length k1] 29)) w6) := hid (Below.trans (hbr5.out.trans (by go_grown)) (hb.mono (by first | omega | (simp; done) | (simp; omega)))); have hsr6 := HS_1.out _ hbr6.out; have hch5_6 : Hid (Below w5.heap.size w5 w6) := hid (Below.trans (by go_grown) (hb.mono (by first | omega | (simp; done) | (simp; omega)))); have hch4_6 : Hid (Below w4.heap.size w4 w6) := hid (hch4_5.out.trans (hch5_6.out.mono hch4_5.out.size)); clear hb))
            | (go_at_call 32; go_loud ((refine (r09leq_any ac bc a b T C _ _ _ _ _ _ _ (Hrt0_1.out _ (hbr4.out.trans (by go_grown))) (Hrt1_1.out _ (hbr4.out.trans (by go_grown))) (Hrc0_1.out _ (hbr4.out.trans (by go_grown))) (Hrc1_1.out _ (hbr4.out.trans (by go_grown))) (by omega) (by omega) HO1.out HO2.out (by omega) (by omega) HBL HBC).mono ?_); rw [HRL.out]; rintro e w5 ⟨rfl, hb⟩; have hbr5 : Hid (Below (w.heap.size + 2) ((w.alloc (.cells #[.slice A0 a.es.length n0, .slice B0 a.ks.length m0, .slice D0 ac.length k0] 29)).alloc (.cells #[.slice A1 b.es.length n1, .slice B1 b.ks.length m1, .slice D1 bc.length k1] 29)) w5) := hid (Below.trans (hbr4.out.trans (by go_grown)) (hb.mono (by first | omega | (simp; done) | (simp; omega)))); have hsr5 := HS_1.out _ hbr5.out; have hch4_5 : Hid (Below w4.heap.size w4 w5) := hid (Below.trans (by go_grown) (hb.mono (by first | omega | (simp; done) | (simp; omega)))); clear hb))
            | (go_at_call 30; go_loud ((refine (cleqK_any ac bc a b _ _ _ _ _ _ _ (Hrt0_1.out _ (hbk3.out.trans (by go_grown))) (Hrt1_1.out _ (hbk3.out.trans (by go_grown))) (Hrc0_1.out _ (hbk3.out.trans (by go_grown))) (Hrc1_1.out _ (hbk3.out.trans (by go_grown))) (by omega) (by omega) (by omega) (by omega)).mono ?_); rw [HL.out]; rintro e w4 ⟨rfl, hb⟩; have hbr4 : Hid (Below (w.heap.size + 2) ((w.alloc (.cells #[.slice A0 a.es.length n0, .slice B0 a.ks.length m0, .slice D0 ac.length k0] 29)).alloc (.cells #[.slice A1 b.es.length n1, .slice B1 b.ks.length m1, .slice D1 bc.length k1] 29)) w4) := hid (Below.trans (hbk3.out.trans (by go_grown)) (hb.mono (by first | omega | (simp; done) | (simp; omega)))); have hsr4 := HS_1.out _ hbr4.out; clear hb)))
        all_goals (
          obtain ⟨hB, hs, rt0, rc0, rt1, rc1, c00, c01, c02, c10, c11, c12⟩ := HX0.out _ hbr7.out
          go_wp2_with fail
          go_ret
          exact ⟨rfl, hB⟩)
    · cases Q
      · skip
        go_upto_region 5 with (fail)
        have HK1 : Hid (∀ W, Below (w.heap.size + 2) ((w.alloc (.cells #[.slice A0 a.es.length n0, .slice B0 a.ks.length m0, .slice D0 ac.length k0] 29)).alloc (.cells #[.slice A1 b.es.length n1, .slice B1 b.ks.length m1, .slice D1 bc.length k1] 29)) W → ((W).cell? ⟨w.heap.size, 0, none⟩ = some (.slice A0 a.es.length n0) ∧ (W).cell? ⟨w.heap.size, 1, none⟩ = some (.slice B0 a.ks.length m0) ∧ (W).cell? ⟨w.heap.size, 2, none⟩ = some (.slice D0 ac.length k0) ∧ (W).cell? ⟨(w.heap.size + 1), 0, none⟩ = some (.slice A1 b.es.length n1) ∧ (W).cell? ⟨(w.heap.size + 1), 1, none⟩ = some (.slice B1 b.ks.length m1) ∧ (W).cell? ⟨(w.heap.size + 1), 2, none⟩ = some (.slice D1 bc.length k1))) := fun W hW => by
          obtain ⟨_, _, _, _, _, _, z_c00, z_c01, z_c02, z_c10, z_c11, z_c12⟩ := HX0.out W hW
          exact ⟨z_c00, z_c01, z_c02, z_c10, z_c11, z_c12⟩
        have Hrt0_1 : Hid (∀ W, Below (w.heap.size + 2) ((w.alloc (.cells #[.slice A0 a.es.length n0, .slice B0 a.ks.length m0, .slice D0 ac.length k0] 29)).alloc (.cells #[.slice A1 b.es.length n1, .slice B1 b.ks.length m1, .slice D1 bc.length k1] 29)) W → a.rd W (W).heap.size (.slice A0 a.es.length n0) (.slice B0 a.ks.length m0)) := fun W hW => by
          obtain ⟨_, _, z, _, _, _, _, _, _, _, _, _⟩ := HX0.out W hW
          exact z
        have Hrc0_1 : Hid (∀ W, Below (w.heap.size + 2) ((w.alloc (.cells #[.slice A0 a.es.length n0, .slice B0 a.ks.length m0, .slice D0 ac.length k0] 29)).alloc (.cells #[.slice A1 b.es.length n1, .slice B1 b.ks.length m1, .slice D1 bc.length k1] 29)) W → SlP W (W).heap.size 3 SpE (.slice D0 ac.length k0) ac) := fun W hW => by
          obtain ⟨_, _, _, z, _, _, _, _, _, _, _, _⟩ := HX0.out W hW
          exact z
        have Hrt1_1 : Hid (∀ W, Below (w.heap.size + 2) ((w.alloc (.cells #[.slice A0 a.es.length n0, .slice B0 a.ks.length m0, .slice D0 ac.length k0] 29)).alloc (.cells #[.slice A1 b.es.length n1, .slice B1 b.ks.length m1, .slice D1 bc.length k1] 29)) W → b.rd W (W).heap.size (.slice A1 b.es.length n1) (.slice B1 b.ks.length m1)) := fun W hW => by
          obtain ⟨_, _, _, _, z, _, _, _, _, _, _, _⟩ := HX0.out W hW
          exact z
        have Hrc1_1 : Hid (∀ W, Below (w.heap.size + 2) ((w.alloc (.cells #[.slice A0 a.es.length n0, .slice B0 a.ks.length m0, .slice D0 ac.length k0] 29)).alloc (.cells #[.slice A1 b.es.length n1, .slice B1 b.ks.length m1, .slice D1 bc.length k1] 29)) W → SlP W (W).heap.size 3 SpE (.slice D1 bc.length k1) bc) := fun W hW => by
          obtain ⟨_, _, _, _, _, z, _, _, _, _, _, _⟩ := HX0.out W hW
          exact z
        have HS_1 : Hid (∀ W, Below (w.heap.size + 2) ((w.alloc (.cells #[.slice A0 a.es.length n0, .slice B0 a.ks.length m0, .slice D0 ac.length k0] 29)).alloc (.cells #[.slice A1 b.es.length n1, .slice B1 b.ks.length m1, .slice D1 bc.length k1] 29)) W → (w.heap.size + 2) ≤ W.heap.size) := fun W hW => by
          have := hW.size
          first | omega | (simp at this; omega)
        have hsb1 := HS_1.out _ hbk3.out
        clear hB rt0 rc0 rt1 rc1
        go_region_held3 (fun W => (W).cell? ⟨w.heap.size, 0, none⟩ = some (.slice A0 a.es.length n0) ∧ (W).cell? ⟨w.heap.size, 1, none⟩ = some (.slice B0 a.ks.length m0) ∧ (W).cell? ⟨w.heap.size, 2, none⟩ = some (.slice D0 ac.length k0) ∧ (W).cell? ⟨(w.heap.size + 1), 0, none⟩ = some (.slice A1 b.es.length n1) ∧ (W).cell? ⟨(w.heap.size + 1), 1, none⟩ = some (.slice B1 b.ks.length m1) ∧ (W).cell? ⟨(w.heap.size + 1), 2, none⟩ = some (.slice D1 bc.length k1))
          (first | go_keep | exact HK1.out _ hbr7.out | exact HK1.out _ (hbr7.out.trans (by go_grown)) | exact HK1.out _ hbr6.out | exact HK1.out _ (hbr6.out.trans (by go_grown)) | exact HK1.out _ hbr5.out | exact HK1.out _ (hbr5.out.trans (by go_grown)) | exact HK1.out _ hbr4.out | exact HK1.out _ (hbr4.out.trans (by go_grown)) | exact HK1.out _ (((hbr7.out.setCell (by first | (simp; done) | (simp; omega)) _).setCell (by first | (simp; done) | (simp; omega)) _).setCell (by first | (simp; done) | (simp; omega)) _) | exact HK1.out _ (hbk3.out.trans (by go_grown)) | fail)
          (first
            | (go_at_call 27; go_loud ((refine (r09same_any a b ac bc _ _ _ _ _ _ _ (Hrt0_1.out _ (hbr6.out.trans (by go_grown))) (Hrt1_1.out _ (hbr6.out.trans (by go_grown))) (Hrc0_1.out _ (hbr6.out.trans (by go_grown))) (Hrc1_1.out _ (hbr6.out.trans (by go_grown)))).mono ?_); rw [HRS.out]; rintro e w7 ⟨rfl, hb⟩; have hbr7 : Hid (Below (w.heap.size + 2) ((w.alloc (.cells #[.slice A0 a.es.length n0, .slice B0 a.ks.length m0, .slice D0 ac.length k0] 29)).alloc (.cells #[.slice A1 b.es.length n1, .slice B1 b.ks.length m1, .slice D1 bc.length k1] 29)) w7) := hid (Below.trans (hbr6.out.trans (by go_grown)) (hb.mono (by first | omega | (simp; done) | (simp; omega)))); have hsr7 := HS_1.out _ hbr7.out; have hch6_7 : Hid (Below w6.heap.size w6 w7) := hid (Below.trans (by go_grown) (hb.mono (by first | omega | (simp; done) | (simp; omega)))); have hch4_7 : Hid (Below w4.heap.size w4 w7) := hid (hch4_6.out.trans (hch6_7.out.mono hch4_6.out.size)); have hch5_7 : Hid (Below w5.heap.size w5 w7) := hid (hch5_6.out.trans (hch6_7.out.mono hch5_6.out.size)); clear hb))
            | (go_at_call 31; go_loud ((refine (csame_any ac bc a b _ _ _ _ _ _ _ (Hrt0_1.out _ (hbr5.out.trans (by go_grown))) (Hrt1_1.out _ (hbr5.out.trans (by go_grown))) (Hrc0_1.out _ (hbr5.out.trans (by go_grown))) (Hrc1_1.out _ (hbr5.out.trans (by go_grown))) (by omega) (by omega) (by omega) (by omega)).mono ?_); rw [HS.out]; rintro e w6 ⟨rfl, hb⟩; have hbr6 : Hid (Below (w.heap.size + 2) ((w.alloc (.cells #[.slice A0 a.es.length n0, .slice B0 a.ks.length m0, .slice D0 ac.length k0] 29)).alloc (.cells #[.slice A1 b.es.length n1, .slice B1 b.ks.length m1, .slice D1 bc.length k1] 29)) w6) := hid (Below.trans (hbr5.out.trans (by go_grown)) (hb.mono (by first | omega | (simp; done) | (simp; omega)))); have hsr6 := HS_1.out _ hbr6.out; have hch5_6 : Hid (Below w5.heap.size w5 w6) := hid (Below.trans (by go_grown) (hb.mono (by first | omega | (simp; done) | (simp; omega)))); have hch4_6 : Hid (Below w4.heap.size w4 w6) := hid (hch4_5.out.trans (hch5_6.out.mono hch4_5.out.size)); clear hb))
            | (go_at_call 32; go_loud ((refine (r09leq_any ac bc a b T C _ _ _ _ _ _ _ (Hrt0_1.out _ (hbr4.out.trans (by go_grown))) (Hrt1_1.out _ (hbr4.out.trans (by go_grown))) (Hrc0_1.out _ (hbr4.out.trans (by go_grown))) (Hrc1_1.out _ (hbr4.out.trans (by go_grown))) (by omega) (by omega) HO1.out HO2.out (by omega) (by omega) HBL HBC).mono ?_); rw [HRL.out]; rintro e w5 ⟨rfl, hb⟩; have hbr5 : Hid (Below (w.heap.size + 2) ((w.alloc (.cells #[.slice A0 a.es.length n0, .slice B0 a.ks.length m0, .slice D0 ac.length k0] 29)).alloc (.cells #[.slice A1 b.es.length n1, .slice B1 b.ks.length m1, .slice D1 bc.length k1] 29)) w5) := hid (Below.trans (hbr4.out.trans (by go_grown)) (hb.mono (by first | omega | (simp; done) | (simp; omega)))); have hsr5 := HS_1.out _ hbr5.out; have hch4_5 : Hid (Below w4.heap.size w4 w5) := hid (Below.trans (by go_grown) (hb.mono (by first | omega | (simp; done) | (simp; omega)))); clear hb))
            | (go_at_call 30; go_loud ((refine (cleqK_any ac bc a b _ _ _ _ _ _ _ (Hrt0_1.out _ (hbk3.out.trans (by go_grown))) (Hrt1_1.out _ (hbk3.out.trans (by go_grown))) (Hrc0_1.out _ (hbk3.out.trans (by go_grown))) (Hrc1_1.out _ (hbk3.out.trans (by go_grown))) (by omega) (by omega) (by omega) (by omega)).mono ?_); rw [HL.out]; rintro e w4 ⟨rfl, hb⟩; have hbr4 : Hid (Below (w.heap.size + 2) ((w.alloc (.cells #[.slice A0 a.es.length n0, .slice B0 a.ks.length m0, .slice D0 ac.length k0] 29)).alloc (.cells #[.slice A1 b.es.length n1, .slice B1 b.ks.length m1, .slice D1 bc.length k1] 29)) w4) := hid (Below.trans (hbk3.out.trans (by go_grown)) (hb.mono (by first | omega | (simp; done) | (simp; omega)))); have hsr4 := HS_1.out _ hbr4.out; clear hb)))
        all_goals (
          obtain ⟨hB, hs, rt0, rc0, rt1, rc1, c00, c01, c02, c10, c11, c12⟩ := HX0.out _ hbr7.out
          go_wp2_with fail
          go_ret
          exact ⟨rfl, hB⟩)
      · skip
        go_upto_region 5 with (fail)
        have HK1 : Hid (∀ W, Below (w.heap.size + 2) ((w.alloc (.cells #[.slice A0 a.es.length n0, .slice B0 a.ks.length m0, .slice D0 ac.length k0] 29)).alloc (.cells #[.slice A1 b.es.length n1, .slice B1 b.ks.length m1, .slice D1 bc.length k1] 29)) W → ((W).cell? ⟨w.heap.size, 0, none⟩ = some (.slice A0 a.es.length n0) ∧ (W).cell? ⟨w.heap.size, 1, none⟩ = some (.slice B0 a.ks.length m0) ∧ (W).cell? ⟨w.heap.size, 2, none⟩ = some (.slice D0 ac.length k0) ∧ (W).cell? ⟨(w.heap.size + 1), 0, none⟩ = some (.slice A1 b.es.length n1) ∧ (W).cell? ⟨(w.heap.size + 1), 1, none⟩ = some (.slice B1 b.ks.length m1) ∧ (W).cell? ⟨(w.heap.size + 1), 2, none⟩ = some (.slice D1 bc.length k1))) := fun W hW => by
          obtain ⟨_, _, _, _, _, _, z_c00, z_c01, z_c02, z_c10, z_c11, z_c12⟩ := HX0.out W hW
          exact ⟨z_c00, z_c01, z_c02, z_c10, z_c11, z_c12⟩
        have Hrt0_1 : Hid (∀ W, Below (w.heap.size + 2) ((w.alloc (.cells #[.slice A0 a.es.length n0, .slice B0 a.ks.length m0, .slice D0 ac.length k0] 29)).alloc (.cells #[.slice A1 b.es.length n1, .slice B1 b.ks.length m1, .slice D1 bc.length k1] 29)) W → a.rd W (W).heap.size (.slice A0 a.es.length n0) (.slice B0 a.ks.length m0)) := fun W hW => by
          obtain ⟨_, _, z, _, _, _, _, _, _, _, _, _⟩ := HX0.out W hW
          exact z
        have Hrc0_1 : Hid (∀ W, Below (w.heap.size + 2) ((w.alloc (.cells #[.slice A0 a.es.length n0, .slice B0 a.ks.length m0, .slice D0 ac.length k0] 29)).alloc (.cells #[.slice A1 b.es.length n1, .slice B1 b.ks.length m1, .slice D1 bc.length k1] 29)) W → SlP W (W).heap.size 3 SpE (.slice D0 ac.length k0) ac) := fun W hW => by
          obtain ⟨_, _, _, z, _, _, _, _, _, _, _, _⟩ := HX0.out W hW
          exact z
        have Hrt1_1 : Hid (∀ W, Below (w.heap.size + 2) ((w.alloc (.cells #[.slice A0 a.es.length n0, .slice B0 a.ks.length m0, .slice D0 ac.length k0] 29)).alloc (.cells #[.slice A1 b.es.length n1, .slice B1 b.ks.length m1, .slice D1 bc.length k1] 29)) W → b.rd W (W).heap.size (.slice A1 b.es.length n1) (.slice B1 b.ks.length m1)) := fun W hW => by
          obtain ⟨_, _, _, _, z, _, _, _, _, _, _, _⟩ := HX0.out W hW
          exact z
        have Hrc1_1 : Hid (∀ W, Below (w.heap.size + 2) ((w.alloc (.cells #[.slice A0 a.es.length n0, .slice B0 a.ks.length m0, .slice D0 ac.length k0] 29)).alloc (.cells #[.slice A1 b.es.length n1, .slice B1 b.ks.length m1, .slice D1 bc.length k1] 29)) W → SlP W (W).heap.size 3 SpE (.slice D1 bc.length k1) bc) := fun W hW => by
          obtain ⟨_, _, _, _, _, z, _, _, _, _, _, _⟩ := HX0.out W hW
          exact z
        have HS_1 : Hid (∀ W, Below (w.heap.size + 2) ((w.alloc (.cells #[.slice A0 a.es.length n0, .slice B0 a.ks.length m0, .slice D0 ac.length k0] 29)).alloc (.cells #[.slice A1 b.es.length n1, .slice B1 b.ks.length m1, .slice D1 bc.length k1] 29)) W → (w.heap.size + 2) ≤ W.heap.size) := fun W hW => by
          have := hW.size
          first | omega | (simp at this; omega)
        have hsb1 := HS_1.out _ hbk3.out
        clear hB rt0 rc0 rt1 rc1
        go_region_held3 (fun W => (W).cell? ⟨w.heap.size, 0, none⟩ = some (.slice A0 a.es.length n0) ∧ (W).cell? ⟨w.heap.size, 1, none⟩ = some (.slice B0 a.ks.length m0) ∧ (W).cell? ⟨w.heap.size, 2, none⟩ = some (.slice D0 ac.length k0) ∧ (W).cell? ⟨(w.heap.size + 1), 0, none⟩ = some (.slice A1 b.es.length n1) ∧ (W).cell? ⟨(w.heap.size + 1), 1, none⟩ = some (.slice B1 b.ks.length m1) ∧ (W).cell? ⟨(w.heap.size + 1), 2, none⟩ = some (.slice D1 bc.length k1))
          (first | go_keep | exact HK1.out _ hbr7.out | exact HK1.out _ (hbr7.out.trans (by go_grown)) | exact HK1.out _ hbr6.out | exact HK1.out _ (hbr6.out.trans (by go_grown)) | exact HK1.out _ hbr5.out | exact HK1.out _ (hbr5.out.trans (by go_grown)) | exact HK1.out _ hbr4.out | exact HK1.out _ (hbr4.out.trans (by go_grown)) | exact HK1.out _ (((hbr7.out.setCell (by first | (simp; done) | (simp; omega)) _).setCell (by first | (simp; done) | (simp; omega)) _).setCell (by first | (simp; done) | (simp; omega)) _) | exact HK1.out _ (hbk3.out.trans (by go_grown)) | fail)
          (first
            | (go_at_call 27; go_loud ((refine (r09same_any a b ac bc _ _ _ _ _ _ _ (Hrt0_1.out _ (hbr6.out.trans (by go_grown))) (Hrt1_1.out _ (hbr6.out.trans (by go_grown))) (Hrc0_1.out _ (hbr6.out.trans (by go_grown))) (Hrc1_1.out _ (hbr6.out.trans (by go_grown)))).mono ?_); rw [HRS.out]; rintro e w7 ⟨rfl, hb⟩; have hbr7 : Hid (Below (w.heap.size + 2) ((w.alloc (.cells #[.slice A0 a.es.length n0, .slice B0 a.ks.length m0, .slice D0 ac.length k0] 29)).alloc (.cells #[.slice A1 b.es.length n1, .slice B1 b.ks.length m1, .slice D1 bc.length k1] 29)) w7) := hid (Below.trans (hbr6.out.trans (by go_grown)) (hb.mono (by first | omega | (simp; done) | (simp; omega)))); have hsr7 := HS_1.out _ hbr7.out; have hch6_7 : Hid (Below w6.heap.size w6 w7) := hid (Below.trans (by go_grown) (hb.mono (by first | omega | (simp; done) | (simp; omega)))); have hch4_7 : Hid (Below w4.heap.size w4 w7) := hid (hch4_6.out.trans (hch6_7.out.mono hch4_6.out.size)); have hch5_7 : Hid (Below w5.heap.size w5 w7) := hid (hch5_6.out.trans (hch6_7.out.mono hch5_6.out.size)); clear hb))
            | (go_at_call 31; go_loud ((refine (csame_any ac bc a b _ _ _ _ _ _ _ (Hrt0_1.out _ (hbr5.out.trans (by go_grown))) (Hrt1_1.out _ (hbr5.out.trans (by go_grown))) (Hrc0_1.out _ (hbr5.out.trans (by go_grown))) (Hrc1_1.out _ (hbr5.out.trans (by go_grown))) (by omega) (by omega) (by omega) (by omega)).mono ?_); rw [HS.out]; rintro e w6 ⟨rfl, hb⟩; have hbr6 : Hid (Below (w.heap.size + 2) ((w.alloc (.cells #[.slice A0 a.es.length n0, .slice B0 a.ks.length m0, .slice D0 ac.length k0] 29)).alloc (.cells #[.slice A1 b.es.length n1, .slice B1 b.ks.length m1, .slice D1 bc.length k1] 29)) w6) := hid (Below.trans (hbr5.out.trans (by go_grown)) (hb.mono (by first | omega | (simp; done) | (simp; omega)))); have hsr6 := HS_1.out _ hbr6.out; have hch5_6 : Hid (Below w5.heap.size w5 w6) := hid (Below.trans (by go_grown) (hb.mono (by first | omega | (simp; done) | (simp; omega)))); have hch4_6 : Hid (Below w4.heap.size w4 w6) := hid (hch4_5.out.trans (hch5_6.out.mono hch4_5.out.size)); clear hb))
            | (go_at_call 32; go_loud ((refine (r09leq_any ac bc a b T C _ _ _ _ _ _ _ (Hrt0_1.out _ (hbr4.out.trans (by go_grown))) (Hrt1_1.out _ (hbr4.out.trans (by go_grown))) (Hrc0_1.out _ (hbr4.out.trans (by go_grown))) (Hrc1_1.out _ (hbr4.out.trans (by go_grown))) (by omega) (by omega) HO1.out HO2.out (by omega) (by omega) HBL HBC).mono ?_); rw [HRL.out]; rintro e w5 ⟨rfl, hb⟩; have hbr5 : Hid (Below (w.heap.size + 2) ((w.alloc (.cells #[.slice A0 a.es.length n0, .slice B0 a.ks.length m0, .slice D0 ac.length k0] 29)).alloc (.cells #[.slice A1 b.es.length n1, .slice B1 b.ks.length m1, .slice D1 bc.length k1] 29)) w5) := hid (Below.trans (hbr4.out.trans (by go_grown)) (hb.mono (by first | omega | (simp; done) | (simp; omega)))); have hsr5 := HS_1.out _ hbr5.out; have hch4_5 : Hid (Below w4.heap.size w4 w5) := hid (Below.trans (by go_grown) (hb.mono (by first | omega | (simp; done) | (simp; omega)))); clear hb))
            | (go_at_call 30; go_loud ((refine (cleqK_any ac bc a b _ _ _ _ _ _ _ (Hrt0_1.out _ (hbk3.out.trans (by go_grown))) (Hrt1_1.out _ (hbk3.out.trans (by go_grown))) (Hrc0_1.out _ (hbk3.out.trans (by go_grown))) (Hrc1_1.out _ (hbk3.out.trans (by go_grown))) (by omega) (by omega) (by omega) (by omega)).mono ?_); rw [HL.out]; rintro e w4 ⟨rfl, hb⟩; have hbr4 : Hid (Below (w.heap.size + 2) ((w.alloc (.cells #[.slice A0 a.es.length n0, .slice B0 a.ks.length m0, .slice D0 ac.length k0] 29)).alloc (.cells #[.slice A1 b.es.length n1, .slice B1 b.ks.length m1, .slice D1 bc.length k1] 29)) w4) := hid (Below.trans (hbk3.out.trans (by go_grown)) (hb.mono (by first | omega | (simp; done) | (simp; omega)))); have hsr4 := HS_1.out _ hbr4.out; clear hb)))
        all_goals (
          obtain ⟨hB, hs, rt0, rc0, rt1, rc1, c00, c01, c02, c10, c11, c12⟩ := HX0.out _ hbr7.out
          go_wp2_with fail
          go_ret
          exact ⟨rfl, hB⟩)
end Go.Proofs.YtkjijbogbelilaaGreat
