/- What the laws need, part 3: The law SetBoth answers true. No condition. Arguments that are lists of texts, or of what is known. No condition. Arguments that are arrays, lists of numbers, and lists of what is known. No condition. -/
import Derived.OpenShut
import Derived.Test.YtmphgnjodangcaaGreatUb2
namespace Go.Proofs.YtmphgnjodangcaaGreat
open Go.RowKit
set_option maxRecDepth 100000

set_option maxHeartbeats 4000000 in
theorem lawSB_any (t : Tr) (s u : ByteArray) (d e f : Dt) (w : World) (ve0 vk0 : Value) (h0 : t.rd w w.heap.size ve0 vk0) (h1 : s.size ≤ Big ∧ u.size ≤ Big) (h2 : d.Ok ∧ e.Ok ∧ f.Ok) :
    Calls Tryz.prog 10 #[.agg #[ve0, vk0], .agg #[.string s, .string u], .agg #[.int .i64 d.dc, .int .i64 d.n, .int .i64 e.dc, .int .i64 e.n, .int .i64 f.dc, .int .i64 f.n]] w fun e w' => e = .returned (.bool true) ∧ Below w.heap.size w w' := by
  have HC0 : Hid (∀ w', Below w.heap.size w w' → t.rd w' w'.heap.size ve0 vk0) := fun w' hb => rd_below hb hb.size _ _ _ h0
  obtain ⟨A0, n0, B0, m0, rfl, rfl⟩ := rd_shape h0
  clear h0
  have HX0 : Hid (∀ W, Below (w.heap.size + 3) (((w.alloc (.cells #[.slice A0 t.es.length n0, .slice B0 t.ks.length m0] 27)).alloc (.cells #[.string s, .string u] 74)).alloc (.cells #[.int .i64 d.dc, .int .i64 d.n, .int .i64 e.dc, .int .i64 e.n, .int .i64 f.dc, .int .i64 f.n] 60)) W → (Below w.heap.size w W ∧ w.heap.size + 3 ≤ (W).heap.size ∧ t.rd W (W).heap.size (.slice A0 t.es.length n0) (.slice B0 t.ks.length m0) ∧ (W).cell? ⟨w.heap.size, 0, none⟩ = some (.slice A0 t.es.length n0) ∧ (W).cell? ⟨w.heap.size, 1, none⟩ = some (.slice B0 t.ks.length m0) ∧ (W).cell? ⟨(w.heap.size + 1), 0, none⟩ = some (.string s) ∧ (W).cell? ⟨(w.heap.size + 1), 1, none⟩ = some (.string u) ∧ (W).cell? ⟨(w.heap.size + 2), 0, none⟩ = some (.int .i64 d.dc) ∧ (W).cell? ⟨(w.heap.size + 2), 1, none⟩ = some (.int .i64 d.n) ∧ (W).cell? ⟨(w.heap.size + 2), 2, none⟩ = some (.int .i64 e.dc) ∧ (W).cell? ⟨(w.heap.size + 2), 3, none⟩ = some (.int .i64 e.n) ∧ (W).cell? ⟨(w.heap.size + 2), 4, none⟩ = some (.int .i64 f.dc) ∧ (W).cell? ⟨(w.heap.size + 2), 5, none⟩ = some (.int .i64 f.n))) := fun W hW => by
    have g0 : W.heap[w.heap.size]? = some (.cells #[.slice A0 t.es.length n0, .slice B0 t.ks.length m0] 27 (0, 0)) := (hW.block _ (by omega)).trans ((heap_old (by simp <;> omega)).trans ((heap_old (by simp <;> omega)).trans (heap_new rfl)))
    have g1 : W.heap[(w.heap.size + 1)]? = some (.cells #[.string s, .string u] 74 (0, 0)) := (hW.block _ (by omega)).trans ((heap_old (by simp <;> omega)).trans (heap_new (by simp)))
    have g2 : W.heap[(w.heap.size + 2)]? = some (.cells #[.int .i64 d.dc, .int .i64 d.n, .int .i64 e.dc, .int .i64 e.n, .int .i64 f.dc, .int .i64 f.n] 60 (0, 0)) := (hW.block _ (by omega)).trans (heap_new (by simp))
    have hB : Below w.heap.size w W := ((((Below.refl _ w).alloc (Nat.le_refl _) _).alloc (by simp <;> omega) _).alloc (by simp <;> omega) _).trans (hW.mono (by omega))
    exact ⟨hB, by have := hW.size; simpa using this, HC0.out _ hB, cell_cells (i := 0) g0, cell_cells (i := 1) g0, cell_cells (i := 0) g1, cell_cells (i := 1) g1, cell_cells (i := 0) g2, cell_cells (i := 1) g2, cell_cells (i := 2) g2, cell_cells (i := 3) g2, cell_cells (i := 4) g2, cell_cells (i := 5) g2⟩
  have hnb1 : w.heap.size + 1 ≠ w.heap.size := by omega
  have hnb2 : w.heap.size + 2 ≠ w.heap.size := by omega
  go_enter Tryz.func10, Tryz.ntmps10
  have gg := guardDot
  have nn := eqlDot d e
  have nn2 := eqlDot d f
  have nn3 := eqlDot e f
  go_wp2_with fail
  obtain ⟨hB, hs, rt0, c00, c01, c10, c11, c20, c21, c22, c23, c24, c25⟩ := HX0.out _ (Below.refl _ _)
  refine (awake11_any _).mono ?_
  rintro e w1 ⟨rfl, hb⟩
  have hbk1 : Hid (Below (w.heap.size + 3) (((w.alloc (.cells #[.slice A0 t.es.length n0, .slice B0 t.ks.length m0] 27)).alloc (.cells #[.string s, .string u] 74)).alloc (.cells #[.int .i64 d.dc, .int .i64 d.n, .int .i64 e.dc, .int .i64 e.n, .int .i64 f.dc, .int .i64 f.n] 60)) w1) := hid (hb.mono (by first | omega | (simp; done) | (simp; omega)))
  clear hb
  clear hB hs rt0 c00 c01 c10 c11 c20 c21 c22 c23 c24 c25
  obtain ⟨hB, hs, rt0, c00, c01, c10, c11, c20, c21, c22, c23, c24, c25⟩ := HX0.out _ hbk1.out
  go_wp2_with fail
  refine (small11_any t _ _ _ rt0).mono ?_
  rintro e w2 ⟨rfl, hb⟩
  have hbk2 : Hid (Below (w.heap.size + 3) (((w.alloc (.cells #[.slice A0 t.es.length n0, .slice B0 t.ks.length m0] 27)).alloc (.cells #[.string s, .string u] 74)).alloc (.cells #[.int .i64 d.dc, .int .i64 d.n, .int .i64 e.dc, .int .i64 e.n, .int .i64 f.dc, .int .i64 f.n] 60)) w2) := hid (hbk1.out.trans (hb.mono (by first | omega | (simp; done) | (simp; omega))))
  clear hb
  clear hB hs rt0 c00 c01 c10 c11 c20 c21 c22 c23 c24 c25
  obtain ⟨hB, hs, rt0, c00, c01, c10, c11, c20, c21, c22, c23, c24, c25⟩ := HX0.out _ hbk2.out
  cases hs : smlB t 60
  · clear hs
    go_wp2_with fail
    refine (awake11_any _).mono ?_
    rintro e w3 ⟨rfl, hb⟩
    have hbk3 : Hid (Below (w.heap.size + 3) (((w.alloc (.cells #[.slice A0 t.es.length n0, .slice B0 t.ks.length m0] 27)).alloc (.cells #[.string s, .string u] 74)).alloc (.cells #[.int .i64 d.dc, .int .i64 d.n, .int .i64 e.dc, .int .i64 e.n, .int .i64 f.dc, .int .i64 f.n] 60)) w3) := hid (hbk2.out.trans (hb.mono (by first | omega | (simp; done) | (simp; omega))))
    clear hb
    clear hB hs rt0 c00 c01 c10 c11 c20 c21 c22 c23 c24 c25
    obtain ⟨hB, hs, rt0, c00, c01, c10, c11, c20, c21, c22, c23, c24, c25⟩ := HX0.out _ hbk3.out
    go_wp2_with fail
    go_ret
    exact ⟨rfl, hB⟩
  have hsz : t.sz ≤ 60 := by have := sml_sz hs; omega
  clear hs
  cases hde : decide (d = e)
  · cases hdf : decide (d = f)
    · cases hef : decide (e = f)
      · have hfi : decide ((23 : Int) ≤ (t.ks.length : Int)) = decide (23 ≤ t.ks.length) := by rw [Bool.eq_iff_iff]; simp; omega
        cases fl : decide (23 ≤ t.ks.length)
        · rw [fl] at hfi
          obtain ⟨Q0, HQ0⟩ : ∃ q : Bool, Hid (sckB t s d = q) := ⟨_, rfl⟩
          obtain ⟨Q1, HQ1⟩ : ∃ q : Bool, Hid (sckB t u e = q) := ⟨_, rfl⟩
          obtain ⟨Q2, HQ2⟩ : ∃ q : Bool, Hid (sckB t s f = q) := ⟨_, rfl⟩
          go_wp2_with fail
          have HLB := hid hbk2.out
          clear hB hs rt0 c00 c01 c10 c11 c20 c21 c22 c23 c24 c25
          go_loopw [53] (fun i wr => ∃ k : Nat, k ≤ 3 ∧ i = .int .i64 k ∧ Hid ((1 ≤ k → Q0 = true) ∧ (2 ≤ k → Q1 = true) ∧ (3 ≤ k → Q2 = true)) ∧ Below (w.heap.size + 3) (((w.alloc (.cells #[.slice A0 t.es.length n0, .slice B0 t.ks.length m0] 27)).alloc (.cells #[.string s, .string u] 74)).alloc (.cells #[.int .i64 d.dc, .int .i64 d.n, .int .i64 e.dc, .int .i64 e.n, .int .i64 f.dc, .int .i64 f.n] 60)) wr) (fun i _ => 3 - (intOf i).toNat)
          case atStart => exact ⟨0, by omega, rfl, ⟨fun h => by omega, fun h => by omega, fun h => by omega⟩, HLB.out⟩
          case round =>
            obtain ⟨k, hk, rfl, hp, hbr⟩ := hrel
            have HBR := hid hbr
            clear hbr
            obtain ⟨hB, hs, rt0, c00, c01, c10, c11, c20, c21, c22, c23, c24, c25⟩ := HX0.out _ HBR.out
            rcases (show k = 0 ∨ k = 1 ∨ k = 2 ∨ k = 3 by omega) with rfl | rfl | rfl | rfl
            · skip
              go_upto_region 6 with (fail)
              have HK1 : Hid (∀ W, Below (w.heap.size + 3) (((w.alloc (.cells #[.slice A0 t.es.length n0, .slice B0 t.ks.length m0] 27)).alloc (.cells #[.string s, .string u] 74)).alloc (.cells #[.int .i64 d.dc, .int .i64 d.n, .int .i64 e.dc, .int .i64 e.n, .int .i64 f.dc, .int .i64 f.n] 60)) W → ((W).cell? ⟨w.heap.size, 0, none⟩ = some (.slice A0 t.es.length n0) ∧ (W).cell? ⟨w.heap.size, 1, none⟩ = some (.slice B0 t.ks.length m0) ∧ (W).cell? ⟨(w.heap.size + 1), 0, none⟩ = some (.string s) ∧ (W).cell? ⟨(w.heap.size + 1), 1, none⟩ = some (.string u) ∧ (W).cell? ⟨(w.heap.size + 2), 0, none⟩ = some (.int .i64 d.dc) ∧ (W).cell? ⟨(w.heap.size + 2), 1, none⟩ = some (.int .i64 d.n) ∧ (W).cell? ⟨(w.heap.size + 2), 2, none⟩ = some (.int .i64 e.dc) ∧ (W).cell? ⟨(w.heap.size + 2), 3, none⟩ = some (.int .i64 e.n) ∧ (W).cell? ⟨(w.heap.size + 2), 4, none⟩ = some (.int .i64 f.dc) ∧ (W).cell? ⟨(w.heap.size + 2), 5, none⟩ = some (.int .i64 f.n))) := fun W hW => by
                obtain ⟨_, _, _, z_c00, z_c01, z_c10, z_c11, z_c20, z_c21, z_c22, z_c23, z_c24, z_c25⟩ := HX0.out W hW
                exact ⟨z_c00, z_c01, z_c10, z_c11, z_c20, z_c21, z_c22, z_c23, z_c24, z_c25⟩
              have Hrt0_1 : Hid (∀ W, Below (w.heap.size + 3) (((w.alloc (.cells #[.slice A0 t.es.length n0, .slice B0 t.ks.length m0] 27)).alloc (.cells #[.string s, .string u] 74)).alloc (.cells #[.int .i64 d.dc, .int .i64 d.n, .int .i64 e.dc, .int .i64 e.n, .int .i64 f.dc, .int .i64 f.n] 60)) W → t.rd W (W).heap.size (.slice A0 t.es.length n0) (.slice B0 t.ks.length m0)) := fun W hW => by
                obtain ⟨_, _, z, _, _, _, _, _, _, _, _, _, _⟩ := HX0.out W hW
                exact z
              have HS_1 : Hid (∀ W, Below (w.heap.size + 3) (((w.alloc (.cells #[.slice A0 t.es.length n0, .slice B0 t.ks.length m0] 27)).alloc (.cells #[.string s, .string u] 74)).alloc (.cells #[.int .i64 d.dc, .int .i64 d.n, .int .i64 e.dc, .int .i64 e.n, .int .i64 f.dc, .int .i64 f.n] 60)) W → (w.heap.size + 3) ≤ W.heap.size) := fun W hW => by
                have := hW.size
                first | omega | (simp at this; omega)
              have hsb1 := HS_1.out _ HBR.out
              clear hB rt0
              go_region_held3 (fun W => (W).cell? ⟨w.heap.size, 0, none⟩ = some (.slice A0 t.es.length n0) ∧ (W).cell? ⟨w.heap.size, 1, none⟩ = some (.slice B0 t.ks.length m0) ∧ (W).cell? ⟨(w.heap.size + 1), 0, none⟩ = some (.string s) ∧ (W).cell? ⟨(w.heap.size + 1), 1, none⟩ = some (.string u) ∧ (W).cell? ⟨(w.heap.size + 2), 0, none⟩ = some (.int .i64 d.dc) ∧ (W).cell? ⟨(w.heap.size + 2), 1, none⟩ = some (.int .i64 d.n) ∧ (W).cell? ⟨(w.heap.size + 2), 2, none⟩ = some (.int .i64 e.dc) ∧ (W).cell? ⟨(w.heap.size + 2), 3, none⟩ = some (.int .i64 e.n) ∧ (W).cell? ⟨(w.heap.size + 2), 4, none⟩ = some (.int .i64 f.dc) ∧ (W).cell? ⟨(w.heap.size + 2), 5, none⟩ = some (.int .i64 f.n))
                (first | go_keep | exact HK1.out _ hbr3.out | exact HK1.out _ (hbr3.out.trans (by go_grown)) | exact HK1.out _ (((hbr3.out.setCell (by first | (simp; done) | (simp; omega)) _).setCell (by first | (simp; done) | (simp; omega)) _).setCell (by first | (simp; done) | (simp; omega)) _) | exact HK1.out _ (HBR.out.trans (by go_grown)) | fail)
                (first
                  | (go_at_call 64; go_loud ((refine (may_any t s d _ _ _ (Hrt0_1.out _ (HBR.out.trans (by go_grown))) (by omega)).mono ?_); rw [HQ0.out]; rintro e w3 ⟨rfl, hb⟩; have hbr3 : Hid (Below (w.heap.size + 3) (((w.alloc (.cells #[.slice A0 t.es.length n0, .slice B0 t.ks.length m0] 27)).alloc (.cells #[.string s, .string u] 74)).alloc (.cells #[.int .i64 d.dc, .int .i64 d.n, .int .i64 e.dc, .int .i64 e.n, .int .i64 f.dc, .int .i64 f.n] 60)) w3) := hid (Below.trans (HBR.out.trans (by go_grown)) (hb.mono (by first | omega | (simp; done) | (simp; omega)))); have hsr3 := HS_1.out _ hbr3.out; clear hb)))
              clear hs c00 c01 c10 c11 c20 c21 c22 c23 c24 c25
              obtain ⟨hB, hs, rt0, c00, c01, c10, c11, c20, c21, c22, c23, c24, c25⟩ := HX0.out _ hbr3.out
              cases Q0
              · go_wp2_with fail
                go_ret
                exact ⟨rfl, hB⟩
              · go_wp2_with fail
                go_roundw
                case rel => exact ⟨1, by omega, by go_num, ⟨fun _ => by first | rfl | trivial, fun h => by omega, fun h => by omega⟩, hbr3.out⟩
                case measure => simp [intOf]
            · skip
              go_upto_region 6 with (fail)
              have HK1 : Hid (∀ W, Below (w.heap.size + 3) (((w.alloc (.cells #[.slice A0 t.es.length n0, .slice B0 t.ks.length m0] 27)).alloc (.cells #[.string s, .string u] 74)).alloc (.cells #[.int .i64 d.dc, .int .i64 d.n, .int .i64 e.dc, .int .i64 e.n, .int .i64 f.dc, .int .i64 f.n] 60)) W → ((W).cell? ⟨w.heap.size, 0, none⟩ = some (.slice A0 t.es.length n0) ∧ (W).cell? ⟨w.heap.size, 1, none⟩ = some (.slice B0 t.ks.length m0) ∧ (W).cell? ⟨(w.heap.size + 1), 0, none⟩ = some (.string s) ∧ (W).cell? ⟨(w.heap.size + 1), 1, none⟩ = some (.string u) ∧ (W).cell? ⟨(w.heap.size + 2), 0, none⟩ = some (.int .i64 d.dc) ∧ (W).cell? ⟨(w.heap.size + 2), 1, none⟩ = some (.int .i64 d.n) ∧ (W).cell? ⟨(w.heap.size + 2), 2, none⟩ = some (.int .i64 e.dc) ∧ (W).cell? ⟨(w.heap.size + 2), 3, none⟩ = some (.int .i64 e.n) ∧ (W).cell? ⟨(w.heap.size + 2), 4, none⟩ = some (.int .i64 f.dc) ∧ (W).cell? ⟨(w.heap.size + 2), 5, none⟩ = some (.int .i64 f.n))) := fun W hW => by
                obtain ⟨_, _, _, z_c00, z_c01, z_c10, z_c11, z_c20, z_c21, z_c22, z_c23, z_c24, z_c25⟩ := HX0.out W hW
                exact ⟨z_c00, z_c01, z_c10, z_c11, z_c20, z_c21, z_c22, z_c23, z_c24, z_c25⟩
              have Hrt0_1 : Hid (∀ W, Below (w.heap.size + 3) (((w.alloc (.cells #[.slice A0 t.es.length n0, .slice B0 t.ks.length m0] 27)).alloc (.cells #[.string s, .string u] 74)).alloc (.cells #[.int .i64 d.dc, .int .i64 d.n, .int .i64 e.dc, .int .i64 e.n, .int .i64 f.dc, .int .i64 f.n] 60)) W → t.rd W (W).heap.size (.slice A0 t.es.length n0) (.slice B0 t.ks.length m0)) := fun W hW => by
                obtain ⟨_, _, z, _, _, _, _, _, _, _, _, _, _⟩ := HX0.out W hW
                exact z
              have HS_1 : Hid (∀ W, Below (w.heap.size + 3) (((w.alloc (.cells #[.slice A0 t.es.length n0, .slice B0 t.ks.length m0] 27)).alloc (.cells #[.string s, .string u] 74)).alloc (.cells #[.int .i64 d.dc, .int .i64 d.n, .int .i64 e.dc, .int .i64 e.n, .int .i64 f.dc, .int .i64 f.n] 60)) W → (w.heap.size + 3) ≤ W.heap.size) := fun W hW => by
                have := hW.size
                first | omega | (simp at this; omega)
              have hsb1 := HS_1.out _ HBR.out
              clear hB rt0
              go_region_held3 (fun W => (W).cell? ⟨w.heap.size, 0, none⟩ = some (.slice A0 t.es.length n0) ∧ (W).cell? ⟨w.heap.size, 1, none⟩ = some (.slice B0 t.ks.length m0) ∧ (W).cell? ⟨(w.heap.size + 1), 0, none⟩ = some (.string s) ∧ (W).cell? ⟨(w.heap.size + 1), 1, none⟩ = some (.string u) ∧ (W).cell? ⟨(w.heap.size + 2), 0, none⟩ = some (.int .i64 d.dc) ∧ (W).cell? ⟨(w.heap.size + 2), 1, none⟩ = some (.int .i64 d.n) ∧ (W).cell? ⟨(w.heap.size + 2), 2, none⟩ = some (.int .i64 e.dc) ∧ (W).cell? ⟨(w.heap.size + 2), 3, none⟩ = some (.int .i64 e.n) ∧ (W).cell? ⟨(w.heap.size + 2), 4, none⟩ = some (.int .i64 f.dc) ∧ (W).cell? ⟨(w.heap.size + 2), 5, none⟩ = some (.int .i64 f.n))
                (first | go_keep | exact HK1.out _ hbr3.out | exact HK1.out _ (hbr3.out.trans (by go_grown)) | exact HK1.out _ (((hbr3.out.setCell (by first | (simp; done) | (simp; omega)) _).setCell (by first | (simp; done) | (simp; omega)) _).setCell (by first | (simp; done) | (simp; omega)) _) | exact HK1.out _ (HBR.out.trans (by go_grown)) | fail)
                (first
                  | (go_at_call 64; go_loud ((refine (may_any t u e _ _ _ (Hrt0_1.out _ (HBR.out.trans (by go_grown))) (by omega)).mono ?_); rw [HQ1.out]; rintro e w3 ⟨rfl, hb⟩; have hbr3 : Hid (Below (w.heap.size + 3) (((w.alloc (.cells #[.slice A0 t.es.length n0, .slice B0 t.ks.length m0] 27)).alloc (.cells #[.string s, .string u] 74)).alloc (.cells #[.int .i64 d.dc, .int .i64 d.n, .int .i64 e.dc, .int .i64 e.n, .int .i64 f.dc, .int .i64 f.n] 60)) w3) := hid (Below.trans (HBR.out.trans (by go_grown)) (hb.mono (by first | omega | (simp; done) | (simp; omega)))); have hsr3 := HS_1.out _ hbr3.out; clear hb)))
              clear hs c00 c01 c10 c11 c20 c21 c22 c23 c24 c25
              obtain ⟨hB, hs, rt0, c00, c01, c10, c11, c20, c21, c22, c23, c24, c25⟩ := HX0.out _ hbr3.out
              cases Q1
              · go_wp2_with fail
                go_ret
                exact ⟨rfl, hB⟩
              · go_wp2_with fail
                go_roundw
                case rel => exact ⟨2, by omega, by go_num, ⟨fun _ => hp.out.1 (by omega), fun _ => by first | rfl | trivial, fun h => by omega⟩, hbr3.out⟩
                case measure => simp [intOf]
            · skip
              go_upto_region 6 with (fail)
              have HK1 : Hid (∀ W, Below (w.heap.size + 3) (((w.alloc (.cells #[.slice A0 t.es.length n0, .slice B0 t.ks.length m0] 27)).alloc (.cells #[.string s, .string u] 74)).alloc (.cells #[.int .i64 d.dc, .int .i64 d.n, .int .i64 e.dc, .int .i64 e.n, .int .i64 f.dc, .int .i64 f.n] 60)) W → ((W).cell? ⟨w.heap.size, 0, none⟩ = some (.slice A0 t.es.length n0) ∧ (W).cell? ⟨w.heap.size, 1, none⟩ = some (.slice B0 t.ks.length m0) ∧ (W).cell? ⟨(w.heap.size + 1), 0, none⟩ = some (.string s) ∧ (W).cell? ⟨(w.heap.size + 1), 1, none⟩ = some (.string u) ∧ (W).cell? ⟨(w.heap.size + 2), 0, none⟩ = some (.int .i64 d.dc) ∧ (W).cell? ⟨(w.heap.size + 2), 1, none⟩ = some (.int .i64 d.n) ∧ (W).cell? ⟨(w.heap.size + 2), 2, none⟩ = some (.int .i64 e.dc) ∧ (W).cell? ⟨(w.heap.size + 2), 3, none⟩ = some (.int .i64 e.n) ∧ (W).cell? ⟨(w.heap.size + 2), 4, none⟩ = some (.int .i64 f.dc) ∧ (W).cell? ⟨(w.heap.size + 2), 5, none⟩ = some (.int .i64 f.n))) := fun W hW => by
                obtain ⟨_, _, _, z_c00, z_c01, z_c10, z_c11, z_c20, z_c21, z_c22, z_c23, z_c24, z_c25⟩ := HX0.out W hW
                exact ⟨z_c00, z_c01, z_c10, z_c11, z_c20, z_c21, z_c22, z_c23, z_c24, z_c25⟩
              have Hrt0_1 : Hid (∀ W, Below (w.heap.size + 3) (((w.alloc (.cells #[.slice A0 t.es.length n0, .slice B0 t.ks.length m0] 27)).alloc (.cells #[.string s, .string u] 74)).alloc (.cells #[.int .i64 d.dc, .int .i64 d.n, .int .i64 e.dc, .int .i64 e.n, .int .i64 f.dc, .int .i64 f.n] 60)) W → t.rd W (W).heap.size (.slice A0 t.es.length n0) (.slice B0 t.ks.length m0)) := fun W hW => by
                obtain ⟨_, _, z, _, _, _, _, _, _, _, _, _, _⟩ := HX0.out W hW
                exact z
              have HS_1 : Hid (∀ W, Below (w.heap.size + 3) (((w.alloc (.cells #[.slice A0 t.es.length n0, .slice B0 t.ks.length m0] 27)).alloc (.cells #[.string s, .string u] 74)).alloc (.cells #[.int .i64 d.dc, .int .i64 d.n, .int .i64 e.dc, .int .i64 e.n, .int .i64 f.dc, .int .i64 f.n] 60)) W → (w.heap.size + 3) ≤ W.heap.size) := fun W hW => by
                have := hW.size
                first | omega | (simp at this; omega)
              have hsb1 := HS_1.out _ HBR.out
              clear hB rt0
              go_region_held3 (fun W => (W).cell? ⟨w.heap.size, 0, none⟩ = some (.slice A0 t.es.length n0) ∧ (W).cell? ⟨w.heap.size, 1, none⟩ = some (.slice B0 t.ks.length m0) ∧ (W).cell? ⟨(w.heap.size + 1), 0, none⟩ = some (.string s) ∧ (W).cell? ⟨(w.heap.size + 1), 1, none⟩ = some (.string u) ∧ (W).cell? ⟨(w.heap.size + 2), 0, none⟩ = some (.int .i64 d.dc) ∧ (W).cell? ⟨(w.heap.size + 2), 1, none⟩ = some (.int .i64 d.n) ∧ (W).cell? ⟨(w.heap.size + 2), 2, none⟩ = some (.int .i64 e.dc) ∧ (W).cell? ⟨(w.heap.size + 2), 3, none⟩ = some (.int .i64 e.n) ∧ (W).cell? ⟨(w.heap.size + 2), 4, none⟩ = some (.int .i64 f.dc) ∧ (W).cell? ⟨(w.heap.size + 2), 5, none⟩ = some (.int .i64 f.n))
                (first | go_keep | exact HK1.out _ hbr3.out | exact HK1.out _ (hbr3.out.trans (by go_grown)) | exact HK1.out _ (((hbr3.out.setCell (by first | (simp; done) | (simp; omega)) _).setCell (by first | (simp; done) | (simp; omega)) _).setCell (by first | (simp; done) | (simp; omega)) _) | exact HK1.out _ (HBR.out.trans (by go_grown)) | fail)
                (first
                  | (go_at_call 64; go_loud ((refine (may_any t s f _ _ _ (Hrt0_1.out _ (HBR.out.trans (by go_grown))) (by omega)).mono ?_); rw [HQ2.out]; rintro e w3 ⟨rfl, hb⟩; have hbr3 : Hid (Below (w.heap.size + 3) (((w.alloc (.cells #[.slice A0 t.es.length n0, .slice B0 t.ks.length m0] 27)).alloc (.cells #[.string s, .string u] 74)).alloc (.cells #[.int .i64 d.dc, .int .i64 d.n, .int .i64 e.dc, .int .i64 e.n, .int .i64 f.dc, .int .i64 f.n] 60)) w3) := hid (Below.trans (HBR.out.trans (by go_grown)) (hb.mono (by first | omega | (simp; done) | (simp; omega)))); have hsr3 := HS_1.out _ hbr3.out; clear hb)))
              clear hs c00 c01 c10 c11 c20 c21 c22 c23 c24 c25
              obtain ⟨hB, hs, rt0, c00, c01, c10, c11, c20, c21, c22, c23, c24, c25⟩ := HX0.out _ hbr3.out
              cases Q2
              · go_wp2_with fail
                go_ret
                exact ⟨rfl, hB⟩
              · go_wp2_with fail
                go_roundw
                case rel => exact ⟨3, by omega, by go_num, ⟨fun _ => hp.out.1 (by omega), fun _ => hp.out.2.1 (by omega), fun _ => by first | rfl | trivial⟩, hbr3.out⟩
                case measure => simp [intOf]
            · obtain ⟨X, Y, N0, S, R, A, U, Z, B, V, HW, HXT, HXC, HXE, HYT, HYC, HYE, HA1, HA2, HA3, HH1, HH2, HZC, HZE, HJE, HJT, HJC, HB1, HB2, hX1, hY1, hW1, hA1, hA2, hB1, hS1, hR1, hU1, hZ1, hK1, HN⟩ := sb_plain (HQ0.out.trans (hp.out.1 (by omega))) (HQ1.out.trans (hp.out.2.1 (by omega))) (HQ2.out.trans (hp.out.2.2 (by omega))) (by simpa using hde) (by simpa using hdf) (by simpa using hef) (by simpa using fl) hsz
              clear hp hde hdf hef nn nn2 nn3 gg hfi fl
              go_wp2_with fail
              refine (sadd_any t s d _ _ _ rt0 h1.1 (by omega) h2.1).mono ?_
              rw [HXT.out, HXC.out, HXE.out]
              rintro e w3 ⟨xe3, xk3, xc3, rfl, hrd3, hsl3, hb⟩
              obtain ⟨A3x, n3x, B3x, m3x, rfl, rfl⟩ := rda_shape hrd3
              obtain ⟨D3x, k3x, rfl⟩ := hsl3.shape
              have hbk3 : Hid (Below (w.heap.size + 3) (((w.alloc (.cells #[.slice A0 t.es.length n0, .slice B0 t.ks.length m0] 27)).alloc (.cells #[.string s, .string u] 74)).alloc (.cells #[.int .i64 d.dc, .int .i64 d.n, .int .i64 e.dc, .int .i64 e.n, .int .i64 f.dc, .int .i64 f.n] 60)) w3) := hid (HBR.out.trans (hb.mono (by first | omega | (simp; done) | (simp; omega))))
              clear hb
              clear hB hs rt0 c00 c01 c10 c11 c20 c21 c22 c23 c24 c25
              obtain ⟨hB, hs, rt0, c00, c01, c10, c11, c20, c21, c22, c23, c24, c25⟩ := HX0.out _ hbk3.out
              have hlt3962 : w.heap.size < w3.heap.size := by omega
              have hne3962 : w.heap.size ≠ w3.heap.size := by omega
              have hnr3962 : w3.heap.size ≠ w.heap.size := by omega
              have hlt3931 : (w.heap.size + 1) < w3.heap.size := by omega
              have hne3931 : (w.heap.size + 1) ≠ w3.heap.size := by omega
              have hnr3931 : w3.heap.size ≠ (w.heap.size + 1) := by omega
              have hlt3501 : (w.heap.size + 2) < w3.heap.size := by omega
              have hne3501 : (w.heap.size + 2) ≠ w3.heap.size := by omega
              have hnr3501 : w3.heap.size ≠ (w.heap.size + 2) := by omega
              have HX1 : Hid (∀ W, Below (w3.heap.size + 1) (w3.alloc (.cells #[.slice A3x X.es.length n3x, .slice B3x X.ks.length m3x, .slice D3x S.length k3x] 31)) W → (w3.heap.size + 1 ≤ (W).heap.size ∧ X.rd W (W).heap.size (.slice A3x X.es.length n3x) (.slice B3x X.ks.length m3x) ∧ SlP W (W).heap.size 3 SpE (.slice D3x S.length k3x) S ∧ (W).cell? ⟨w3.heap.size, 0, none⟩ = some (.slice A3x X.es.length n3x) ∧ (W).cell? ⟨w3.heap.size, 1, none⟩ = some (.slice B3x X.ks.length m3x) ∧ (W).cell? ⟨w3.heap.size, 2, none⟩ = some (.slice D3x S.length k3x) ∧ Below w.heap.size w W ∧ w.heap.size + 3 ≤ (W).heap.size ∧ t.rd W (W).heap.size (.slice A0 t.es.length n0) (.slice B0 t.ks.length m0) ∧ (W).cell? ⟨w.heap.size, 0, none⟩ = some (.slice A0 t.es.length n0) ∧ (W).cell? ⟨w.heap.size, 1, none⟩ = some (.slice B0 t.ks.length m0) ∧ (W).cell? ⟨(w.heap.size + 1), 0, none⟩ = some (.string s) ∧ (W).cell? ⟨(w.heap.size + 1), 1, none⟩ = some (.string u) ∧ (W).cell? ⟨(w.heap.size + 2), 0, none⟩ = some (.int .i64 d.dc) ∧ (W).cell? ⟨(w.heap.size + 2), 1, none⟩ = some (.int .i64 d.n) ∧ (W).cell? ⟨(w.heap.size + 2), 2, none⟩ = some (.int .i64 e.dc) ∧ (W).cell? ⟨(w.heap.size + 2), 3, none⟩ = some (.int .i64 e.n) ∧ (W).cell? ⟨(w.heap.size + 2), 4, none⟩ = some (.int .i64 f.dc) ∧ (W).cell? ⟨(w.heap.size + 2), 5, none⟩ = some (.int .i64 f.n))) := fun W hW => by
                have g0 := (hW.block w3.heap.size (by omega)).trans (heap_new rfl)
                have hB : Below w3.heap.size w3 W := ((Below.refl _ w3).alloc (Nat.le_refl _) _).trans (hW.mono (by omega))
                exact ⟨by have := hW.size; simpa using this, rda_rd hrd3 (fun b hb => hb.2) hB, hsl3.slp (fun b hb => hb.2) hB, cell_cells (i := 0) g0, cell_cells (i := 1) g0, cell_cells (i := 2) g0, HX0.out W (hbk3.out.trans (hB.mono (by omega)))⟩
              clear hrd3 hsl3
              go_wp2_with fail
              clear hB hs rt0 c00 c01 c10 c11 c20 c21 c22 c23 c24 c25
              obtain ⟨hs_x, rt_x, rc_x, c0_x, c1_x, c2_x, hB, hs, rt0, c00, c01, c10, c11, c20, c21, c22, c23, c24, c25⟩ := HX1.out _ (Below.refl _ _)
              refine (sadd_any t u e _ _ _ rt0 h1.2 (by omega) h2.2.1).mono ?_
              rw [HYT.out, HYC.out, HYE.out]
              rintro e w4 ⟨xe4, xk4, xc4, rfl, hrd4, hsl4, hb⟩
              obtain ⟨A4x, n4x, B4x, m4x, rfl, rfl⟩ := rda_shape hrd4
              obtain ⟨D4x, k4x, rfl⟩ := hsl4.shape
              have hbk4 : Hid (Below (w3.heap.size + 1) (w3.alloc (.cells #[.slice A3x X.es.length n3x, .slice B3x X.ks.length m3x, .slice D3x S.length k3x] 31)) w4) := hid (hb.mono (by first | omega | (simp; done) | (simp; omega)))
              clear hb
              clear hs_x rt_x rc_x c0_x c1_x c2_x hB hs rt0 c00 c01 c10 c11 c20 c21 c22 c23 c24 c25
              obtain ⟨hs_x, rt_x, rc_x, c0_x, c1_x, c2_x, hB, hs, rt0, c00, c01, c10, c11, c20, c21, c22, c23, c24, c25⟩ := HX1.out _ hbk4.out
              have hlt4962 : w.heap.size < w4.heap.size := by omega
              have hne4962 : w.heap.size ≠ w4.heap.size := by omega
              have hnr4962 : w4.heap.size ≠ w.heap.size := by omega
              have hlt4931 : (w.heap.size + 1) < w4.heap.size := by omega
              have hne4931 : (w.heap.size + 1) ≠ w4.heap.size := by omega
              have hnr4931 : w4.heap.size ≠ (w.heap.size + 1) := by omega
              have hlt4501 : (w.heap.size + 2) < w4.heap.size := by omega
              have hne4501 : (w.heap.size + 2) ≠ w4.heap.size := by omega
              have hnr4501 : w4.heap.size ≠ (w.heap.size + 2) := by omega
              have hlt48 : w3.heap.size < w4.heap.size := by omega
              have hne48 : w3.heap.size ≠ w4.heap.size := by omega
              have hnr48 : w4.heap.size ≠ w3.heap.size := by omega
              have HX2 : Hid (∀ W, Below (w4.heap.size + 1) (w4.alloc (.cells #[.slice A4x Y.es.length n4x, .slice B4x Y.ks.length m4x, .slice D4x R.length k4x] 31)) W → (w4.heap.size + 1 ≤ (W).heap.size ∧ Y.rd W (W).heap.size (.slice A4x Y.es.length n4x) (.slice B4x Y.ks.length m4x) ∧ SlP W (W).heap.size 3 SpE (.slice D4x R.length k4x) R ∧ (W).cell? ⟨w4.heap.size, 0, none⟩ = some (.slice A4x Y.es.length n4x) ∧ (W).cell? ⟨w4.heap.size, 1, none⟩ = some (.slice B4x Y.ks.length m4x) ∧ (W).cell? ⟨w4.heap.size, 2, none⟩ = some (.slice D4x R.length k4x) ∧ w3.heap.size + 1 ≤ (W).heap.size ∧ X.rd W (W).heap.size (.slice A3x X.es.length n3x) (.slice B3x X.ks.length m3x) ∧ SlP W (W).heap.size 3 SpE (.slice D3x S.length k3x) S ∧ (W).cell? ⟨w3.heap.size, 0, none⟩ = some (.slice A3x X.es.length n3x) ∧ (W).cell? ⟨w3.heap.size, 1, none⟩ = some (.slice B3x X.ks.length m3x) ∧ (W).cell? ⟨w3.heap.size, 2, none⟩ = some (.slice D3x S.length k3x) ∧ Below w.heap.size w W ∧ w.heap.size + 3 ≤ (W).heap.size ∧ t.rd W (W).heap.size (.slice A0 t.es.length n0) (.slice B0 t.ks.length m0) ∧ (W).cell? ⟨w.heap.size, 0, none⟩ = some (.slice A0 t.es.length n0) ∧ (W).cell? ⟨w.heap.size, 1, none⟩ = some (.slice B0 t.ks.length m0) ∧ (W).cell? ⟨(w.heap.size + 1), 0, none⟩ = some (.string s) ∧ (W).cell? ⟨(w.heap.size + 1), 1, none⟩ = some (.string u) ∧ (W).cell? ⟨(w.heap.size + 2), 0, none⟩ = some (.int .i64 d.dc) ∧ (W).cell? ⟨(w.heap.size + 2), 1, none⟩ = some (.int .i64 d.n) ∧ (W).cell? ⟨(w.heap.size + 2), 2, none⟩ = some (.int .i64 e.dc) ∧ (W).cell? ⟨(w.heap.size + 2), 3, none⟩ = some (.int .i64 e.n) ∧ (W).cell? ⟨(w.heap.size + 2), 4, none⟩ = some (.int .i64 f.dc) ∧ (W).cell? ⟨(w.heap.size + 2), 5, none⟩ = some (.int .i64 f.n))) := fun W hW => by
                have g0 := (hW.block w4.heap.size (by omega)).trans (heap_new rfl)
                have hB : Below w4.heap.size w4 W := ((Below.refl _ w4).alloc (Nat.le_refl _) _).trans (hW.mono (by omega))
                exact ⟨by have := hW.size; simpa using this, rda_rd hrd4 (fun b hb => hb.2) hB, hsl4.slp (fun b hb => hb.2) hB, cell_cells (i := 0) g0, cell_cells (i := 1) g0, cell_cells (i := 2) g0, HX1.out W (hbk4.out.trans (hB.mono (by omega)))⟩
              clear hrd4 hsl4
              go_upto_region 11 with (fail)
              clear hs_x rt_x rc_x c0_x c1_x c2_x hB hs rt0 c00 c01 c10 c11 c20 c21 c22 c23 c24 c25
              obtain ⟨hs_y, rt_y, rc_y, c0_y, c1_y, c2_y, hs_x, rt_x, rc_x, c0_x, c1_x, c2_x, hB, hs, rt0, c00, c01, c10, c11, c20, c21, c22, c23, c24, c25⟩ := HX2.out _ (Below.refl _ _)
              have HK1 : Hid (∀ W, Below (w4.heap.size + 1) (w4.alloc (.cells #[.slice A4x Y.es.length n4x, .slice B4x Y.ks.length m4x, .slice D4x R.length k4x] 31)) W → ((W).cell? ⟨w4.heap.size, 0, none⟩ = some (.slice A4x Y.es.length n4x) ∧ (W).cell? ⟨w4.heap.size, 1, none⟩ = some (.slice B4x Y.ks.length m4x) ∧ (W).cell? ⟨w4.heap.size, 2, none⟩ = some (.slice D4x R.length k4x) ∧ (W).cell? ⟨w3.heap.size, 0, none⟩ = some (.slice A3x X.es.length n3x) ∧ (W).cell? ⟨w3.heap.size, 1, none⟩ = some (.slice B3x X.ks.length m3x) ∧ (W).cell? ⟨w3.heap.size, 2, none⟩ = some (.slice D3x S.length k3x) ∧ (W).cell? ⟨w.heap.size, 0, none⟩ = some (.slice A0 t.es.length n0) ∧ (W).cell? ⟨w.heap.size, 1, none⟩ = some (.slice B0 t.ks.length m0))) := fun W hW => by
                obtain ⟨_, _, _, z_c0_y, z_c1_y, z_c2_y, _, _, _, z_c0_x, z_c1_x, z_c2_x, _, _, _, z_c00, z_c01, _, _, _, _, _, _, _, _⟩ := HX2.out W hW
                exact ⟨z_c0_y, z_c1_y, z_c2_y, z_c0_x, z_c1_x, z_c2_x, z_c00, z_c01⟩
              have Hrt_y_1 : Hid (∀ W, Below (w4.heap.size + 1) (w4.alloc (.cells #[.slice A4x Y.es.length n4x, .slice B4x Y.ks.length m4x, .slice D4x R.length k4x] 31)) W → Y.rd W (W).heap.size (.slice A4x Y.es.length n4x) (.slice B4x Y.ks.length m4x)) := fun W hW => by
                obtain ⟨_, z, _, _, _, _, _, _, _, _, _, _, _, _, _, _, _, _, _, _, _, _, _, _, _⟩ := HX2.out W hW
                exact z
              have Hrc_y_1 : Hid (∀ W, Below (w4.heap.size + 1) (w4.alloc (.cells #[.slice A4x Y.es.length n4x, .slice B4x Y.ks.length m4x, .slice D4x R.length k4x] 31)) W → SlP W (W).heap.size 3 SpE (.slice D4x R.length k4x) R) := fun W hW => by
                obtain ⟨_, _, z, _, _, _, _, _, _, _, _, _, _, _, _, _, _, _, _, _, _, _, _, _, _⟩ := HX2.out W hW
                exact z
              have Hrt_x_1 : Hid (∀ W, Below (w4.heap.size + 1) (w4.alloc (.cells #[.slice A4x Y.es.length n4x, .slice B4x Y.ks.length m4x, .slice D4x R.length k4x] 31)) W → X.rd W (W).heap.size (.slice A3x X.es.length n3x) (.slice B3x X.ks.length m3x)) := fun W hW => by
                obtain ⟨_, _, _, _, _, _, _, z, _, _, _, _, _, _, _, _, _, _, _, _, _, _, _, _, _⟩ := HX2.out W hW
                exact z
              have Hrc_x_1 : Hid (∀ W, Below (w4.heap.size + 1) (w4.alloc (.cells #[.slice A4x Y.es.length n4x, .slice B4x Y.ks.length m4x, .slice D4x R.length k4x] 31)) W → SlP W (W).heap.size 3 SpE (.slice D3x S.length k3x) S) := fun W hW => by
                obtain ⟨_, _, _, _, _, _, _, _, z, _, _, _, _, _, _, _, _, _, _, _, _, _, _, _, _⟩ := HX2.out W hW
                exact z
              have Hrt0_1 : Hid (∀ W, Below (w4.heap.size + 1) (w4.alloc (.cells #[.slice A4x Y.es.length n4x, .slice B4x Y.ks.length m4x, .slice D4x R.length k4x] 31)) W → t.rd W (W).heap.size (.slice A0 t.es.length n0) (.slice B0 t.ks.length m0)) := fun W hW => by
                obtain ⟨_, _, _, _, _, _, _, _, _, _, _, _, _, _, z, _, _, _, _, _, _, _, _, _, _⟩ := HX2.out W hW
                exact z
              have HS_1 : Hid (∀ W, Below (w4.heap.size + 1) (w4.alloc (.cells #[.slice A4x Y.es.length n4x, .slice B4x Y.ks.length m4x, .slice D4x R.length k4x] 31)) W → (w4.heap.size + 1) ≤ W.heap.size) := fun W hW => by
                have := hW.size
                first | omega | (simp at this; omega)
              have hsb1 := HS_1.out _ (Below.refl _ _)
              clear rt_y rc_y rt_x rc_x hB rt0 c10 c11 c20 c21 c22 c23 c24 c25
              go_cut [12, 13] (fun s12 s13 wx => s13 = .int .i64 0 ∧ Box3 (w4.heap.size + 1) (w4.alloc (.cells #[.slice A4x Y.es.length n4x, .slice B4x Y.ks.length m4x, .slice D4x R.length k4x] 31)) 31 A U s12 wx)
              case first =>
                go_region_held3 (fun W => (W).cell? ⟨w4.heap.size, 0, none⟩ = some (.slice A4x Y.es.length n4x) ∧ (W).cell? ⟨w4.heap.size, 1, none⟩ = some (.slice B4x Y.ks.length m4x) ∧ (W).cell? ⟨w4.heap.size, 2, none⟩ = some (.slice D4x R.length k4x) ∧ (W).cell? ⟨w3.heap.size, 0, none⟩ = some (.slice A3x X.es.length n3x) ∧ (W).cell? ⟨w3.heap.size, 1, none⟩ = some (.slice B3x X.ks.length m3x) ∧ (W).cell? ⟨w3.heap.size, 2, none⟩ = some (.slice D3x S.length k3x) ∧ (W).cell? ⟨w.heap.size, 0, none⟩ = some (.slice A0 t.es.length n0) ∧ (W).cell? ⟨w.heap.size, 1, none⟩ = some (.slice B0 t.ks.length m0))
                  (first | go_keep | exact HK1.out _ hbr6.out | exact HK1.out _ (hbr6.out.trans (by go_grown)) | exact HK1.out _ hbr5.out | exact HK1.out _ (hbr5.out.trans (by go_grown)) | exact HK1.out _ (((hbr6.out.setCell (by first | (simp; done) | (simp; omega)) _).setCell (by first | (simp; done) | (simp; omega)) _).setCell (by first | (simp; done) | (simp; omega)) _) | exact HK1.out _ (by go_grown) | fail)
                  (first
                    | (go_at_call 30; go_loud ((refine (joinAll_any [(t, knC t), (X, S), (Y, R)] _ _ (slp3 (by first | exact heap_new rfl | exact heap_new (by simp) | exact (heap_old (by simp)).trans (heap_new rfl) | exact (heap_old (by simp)).trans (heap_new (by simp))) (kn_at (Hrt0_1.out _ (hbr5.out.trans (by go_grown))) (HLK.out _ (by go_grown))) (kn_at (Hrt_x_1.out _ (hbr5.out.trans (by go_grown))) (Hrc_x_1.out _ (hbr5.out.trans (by go_grown)))) (kn_at (Hrt_y_1.out _ (hbr5.out.trans (by go_grown))) (Hrc_y_1.out _ (hbr5.out.trans (by go_grown)))) (by first | (simp; done) | (simp; omega))) (by simp; omega) (by simp; omega)).mono ?_); rw [HA1.out, HA2.out, HA3.out]; rintro e w6 ⟨xe6, xk6, xc6, rfl, hrd6, hsl6, hb⟩; have hbr6 : Hid (Below (w4.heap.size + 1) (w4.alloc (.cells #[.slice A4x Y.es.length n4x, .slice B4x Y.ks.length m4x, .slice D4x R.length k4x] 31)) w6) := hid (Below.trans (hbr5.out.trans (by go_grown)) (hb.mono (by first | omega | (simp; done) | (simp; omega)))); have hsr6 := HS_1.out _ hbr6.out; have hch5_6 : Hid (Below w5.heap.size w5 w6) := hid (Below.trans (by go_grown) (hb.mono (by first | omega | (simp; done) | (simp; omega)))); obtain ⟨Ar6, nr6, Br6, mr6, hv1, hv2⟩ := rda_shape hrd6; subst hv1; subst hv2; obtain ⟨Dr6, kr6, hv3⟩ := hsl6.shape; subst hv3; have HR6 := hid hrd6; have HL6 := hid hsl6; clear hrd6 hsl6; (first | (have HG6 : Hid (w6.heap[w5.heap.size]? = some (.cells #[.slice none 0 0, .slice none 0 0, .slice none 0 0] 31 (0, 0))) := hid (z_newS hb); have k0 : w6.cell? ⟨w5.heap.size, 0, none⟩ = some (.slice none 0 0) := cell_cells (i := 0) HG6.out; have k1 : w6.cell? ⟨w5.heap.size, 1, none⟩ = some (.slice none 0 0) := cell_cells (i := 1) HG6.out; have k2 : w6.cell? ⟨w5.heap.size, 2, none⟩ = some (.slice none 0 0) := cell_cells (i := 2) HG6.out; have z0 := cells_frz (i := 0) HG6.out; have z1 := cells_frz (i := 1) HG6.out; have z2 := cells_frz (i := 2) HG6.out; have hna0 : w.heap.size ≠ w5.heap.size := (by omega); have hnb0 : w5.heap.size ≠ w.heap.size := (by omega); have hna1 : (w.heap.size + 1) ≠ w5.heap.size := (by omega); have hnb1 : w5.heap.size ≠ (w.heap.size + 1) := (by omega); have hna2 : (w.heap.size + 2) ≠ w5.heap.size := (by omega); have hnb2 : w5.heap.size ≠ (w.heap.size + 2) := (by omega); have hna3 : w3.heap.size ≠ w5.heap.size := (by omega); have hnb3 : w5.heap.size ≠ w3.heap.size := (by omega); have hna4 : w4.heap.size ≠ w5.heap.size := (by omega); have hnb4 : w5.heap.size ≠ w4.heap.size := (by omega)) | (have HG6 : Hid (w6.heap[(w5.heap.size + 1)]? = some (.cells #[.slice none 0 0, .slice none 0 0, .slice none 0 0] 31 (0, 0))) := hid (z_new2 hb); have k0 : w6.cell? ⟨(w5.heap.size + 1), 0, none⟩ = some (.slice none 0 0) := cell_cells (i := 0) HG6.out; have k1 : w6.cell? ⟨(w5.heap.size + 1), 1, none⟩ = some (.slice none 0 0) := cell_cells (i := 1) HG6.out; have k2 : w6.cell? ⟨(w5.heap.size + 1), 2, none⟩ = some (.slice none 0 0) := cell_cells (i := 2) HG6.out; have z0 := cells_frz (i := 0) HG6.out; have z1 := cells_frz (i := 1) HG6.out; have z2 := cells_frz (i := 2) HG6.out; have hna0 : w.heap.size ≠ (w5.heap.size + 1) := (by omega); have hnb0 : (w5.heap.size + 1) ≠ w.heap.size := (by omega); have hna1 : (w.heap.size + 1) ≠ (w5.heap.size + 1) := (by omega); have hnb1 : (w5.heap.size + 1) ≠ (w.heap.size + 1) := (by omega); have hna2 : (w.heap.size + 2) ≠ (w5.heap.size + 1) := (by omega); have hnb2 : (w5.heap.size + 1) ≠ (w.heap.size + 2) := (by omega); have hna3 : w3.heap.size ≠ (w5.heap.size + 1) := (by omega); have hnb3 : (w5.heap.size + 1) ≠ w3.heap.size := (by omega); have hna4 : w4.heap.size ≠ (w5.heap.size + 1) := (by omega); have hnb4 : (w5.heap.size + 1) ≠ w4.heap.size := (by omega)) | (have HG6 : Hid (w6.heap[(w4.heap.size + 1)]? = some (.cells #[.slice none 0 0, .slice none 0 0, .slice none 0 0] 31 (0, 0))) := hid ((hb.block _ (by have := lt_of_block HGA.out; first | omega | (simp; omega))).trans ((heap_old (lt_of_block HGA.out)).trans HGA.out)); have k0 : w6.cell? ⟨(w4.heap.size + 1), 0, none⟩ = some (.slice none 0 0) := cell_cells (i := 0) HG6.out; have k1 : w6.cell? ⟨(w4.heap.size + 1), 1, none⟩ = some (.slice none 0 0) := cell_cells (i := 1) HG6.out; have k2 : w6.cell? ⟨(w4.heap.size + 1), 2, none⟩ = some (.slice none 0 0) := cell_cells (i := 2) HG6.out; have z0 := cells_frz (i := 0) HG6.out; have z1 := cells_frz (i := 1) HG6.out; have z2 := cells_frz (i := 2) HG6.out; have hna0 : w.heap.size ≠ (w4.heap.size + 1) := (by omega); have hnb0 : (w4.heap.size + 1) ≠ w.heap.size := (by omega); have hna1 : (w.heap.size + 1) ≠ (w4.heap.size + 1) := (by omega); have hnb1 : (w4.heap.size + 1) ≠ (w.heap.size + 1) := (by omega); have hna2 : (w.heap.size + 2) ≠ (w4.heap.size + 1) := (by omega); have hnb2 : (w4.heap.size + 1) ≠ (w.heap.size + 2) := (by omega); have hna3 : w3.heap.size ≠ (w4.heap.size + 1) := (by omega); have hnb3 : (w4.heap.size + 1) ≠ w3.heap.size := (by omega); have hna4 : w4.heap.size ≠ (w4.heap.size + 1) := (by omega); have hnb4 : (w4.heap.size + 1) ≠ w4.heap.size := (by omega)) | skip); clear hb))
                    | (go_at_call 41; go_loud ((refine (r10known_any t _ _ _ (Hrt0_1.out _ (by go_grown)) (by omega) HN.out).mono ?_); rintro e w5 ⟨vc5, rfl, hsl5, hb⟩; have hbr5 : Hid (Below (w4.heap.size + 1) (w4.alloc (.cells #[.slice A4x Y.es.length n4x, .slice B4x Y.ks.length m4x, .slice D4x R.length k4x] 31)) w5) := hid (Below.trans (by go_grown) (hb.mono (by first | omega | (simp; done) | (simp; omega)))); have hsr5 := HS_1.out _ hbr5.out; (first | (have HGA : Hid (w5.heap[(w4.heap.size + 1)]? = some (.cells #[.slice none 0 0, .slice none 0 0, .slice none 0 0] 31 (0, 0))) := hid (z_new2D hb)) | (have HGA : Hid (w5.heap[(w4.heap.size + 1)]? = some (.cells #[.slice none 0 0, .slice none 0 0, .slice none 0 0] 31 (0, 0))) := hid (z_newD hb)) | (have HGA : Hid (w5.heap[(w4.heap.size + 1)]? = some (.cells #[.slice none 0 0, .slice none 0 0, .slice none 0 0] 31 (0, 0))) := hid (z_new2 hb)) | (have HGA : Hid (w5.heap[(w4.heap.size + 1)]? = some (.cells #[.slice none 0 0, .slice none 0 0, .slice none 0 0] 31 (0, 0))) := hid (z_new hb)) | skip); obtain ⟨Dr5, kr5, hv3⟩ := hsl5.shape; subst hv3; have HL5 := hid hsl5; clear hsl5; have HLK : Hid (∀ W, Below w5.heap.size w5 W → SlP W W.heap.size 3 SpE (.slice Dr5 ((ctxOf t.dots)).length kr5) (ctxOf t.dots)) := fun W hW => HL5.out.slp (fun b hb => hb.2) hW; clear hb)))
                all_goals
                  go_wp2_with fail
                  go_meet
                  case rel => exact ⟨rfl, (by first | exact box_new hbr6.out (HS_1.out _ hbr6.out) HR6.out HL6.out | exact box_set HG6.out hbr6.out (by omega) (by first | (simp; done) | (simp; omega) | exact lt_of_block HGA.out | (have := lt_of_block HGA.out; simp; omega)) HR6.out HL6.out)⟩
              case rest =>
                obtain ⟨rfl, g7, xe7, xk7, xc7, rfl, hG7, hrd7, hsl7, hbz⟩ := hcut
                obtain ⟨A7x, n7x, B7x, m7x, rfl, rfl⟩ := rd_shape hrd7
                obtain ⟨D7x, k7x, rfl, _⟩ := id hsl7
                have hlg7 := lt_of_block hG7
                obtain ⟨wq7, hwq7⟩ : ∃ z : World, z = wc := ⟨wc, rfl⟩
                subst hwq7
                have HSZ7 : Hid ((w4.heap.size + 1) ≤ wq7.heap.size) := HS_1.out _ hbz
                have HX3 : Hid (∀ W, Below wq7.heap.size wq7 W → (wq7.heap.size ≤ (W).heap.size ∧ A.rd W (W).heap.size (.slice A7x A.es.length n7x) (.slice B7x A.ks.length m7x) ∧ SlP W (W).heap.size 3 SpE (.slice D7x U.length k7x) U ∧ (W).cell? ⟨g7, 0, none⟩ = some (.slice A7x A.es.length n7x) ∧ (W).cell? ⟨g7, 1, none⟩ = some (.slice B7x A.ks.length m7x) ∧ (W).cell? ⟨g7, 2, none⟩ = some (.slice D7x U.length k7x) ∧ w4.heap.size + 1 ≤ (W).heap.size ∧ Y.rd W (W).heap.size (.slice A4x Y.es.length n4x) (.slice B4x Y.ks.length m4x) ∧ SlP W (W).heap.size 3 SpE (.slice D4x R.length k4x) R ∧ (W).cell? ⟨w4.heap.size, 0, none⟩ = some (.slice A4x Y.es.length n4x) ∧ (W).cell? ⟨w4.heap.size, 1, none⟩ = some (.slice B4x Y.ks.length m4x) ∧ (W).cell? ⟨w4.heap.size, 2, none⟩ = some (.slice D4x R.length k4x) ∧ w3.heap.size + 1 ≤ (W).heap.size ∧ X.rd W (W).heap.size (.slice A3x X.es.length n3x) (.slice B3x X.ks.length m3x) ∧ SlP W (W).heap.size 3 SpE (.slice D3x S.length k3x) S ∧ (W).cell? ⟨w3.heap.size, 0, none⟩ = some (.slice A3x X.es.length n3x) ∧ (W).cell? ⟨w3.heap.size, 1, none⟩ = some (.slice B3x X.ks.length m3x) ∧ (W).cell? ⟨w3.heap.size, 2, none⟩ = some (.slice D3x S.length k3x) ∧ Below w.heap.size w W ∧ w.heap.size + 3 ≤ (W).heap.size ∧ t.rd W (W).heap.size (.slice A0 t.es.length n0) (.slice B0 t.ks.length m0) ∧ (W).cell? ⟨w.heap.size, 0, none⟩ = some (.slice A0 t.es.length n0) ∧ (W).cell? ⟨w.heap.size, 1, none⟩ = some (.slice B0 t.ks.length m0) ∧ (W).cell? ⟨(w.heap.size + 1), 0, none⟩ = some (.string s) ∧ (W).cell? ⟨(w.heap.size + 1), 1, none⟩ = some (.string u) ∧ (W).cell? ⟨(w.heap.size + 2), 0, none⟩ = some (.int .i64 d.dc) ∧ (W).cell? ⟨(w.heap.size + 2), 1, none⟩ = some (.int .i64 d.n) ∧ (W).cell? ⟨(w.heap.size + 2), 2, none⟩ = some (.int .i64 e.dc) ∧ (W).cell? ⟨(w.heap.size + 2), 3, none⟩ = some (.int .i64 e.n) ∧ (W).cell? ⟨(w.heap.size + 2), 4, none⟩ = some (.int .i64 f.dc) ∧ (W).cell? ⟨(w.heap.size + 2), 5, none⟩ = some (.int .i64 f.n))) := fun W hW => by
                  have g0 := (hW.block g7 hlg7).trans hG7
                  exact ⟨hW.size, rd_below hW hW.size _ _ _ hrd7, hsl7.imp hW hW.size (fun _ _ _ h => h), cell_cells (i := 0) g0, cell_cells (i := 1) g0, cell_cells (i := 2) g0, HX2.out W (hbz.trans (hW.mono HSZ7.out))⟩
                clear hrd7 hsl7 hG7
                clear hs_y c0_y c1_y c2_y hs_x c0_x c1_x c2_x hs c00 c01
                obtain ⟨hs_a, rt_a, rc_a, c0_a, c1_a, c2_a, hs_y, rt_y, rc_y, c0_y, c1_y, c2_y, hs_x, rt_x, rc_x, c0_x, c1_x, c2_x, hB, hs, rt0, c00, c01, c10, c11, c20, c21, c22, c23, c24, c25⟩ := HX3.out _ (Below.refl _ _)
                go_wp2_with fail
                refine (shasE_any A s _ _ _ rt_a (by omega)).mono ?_
                rw [HH1.out]
                rintro e w8 ⟨rfl, hb⟩
                have hbk8 : Hid (Below wq7.heap.size wq7 w8) := hid (hb.mono (by first | omega | (simp; done) | (simp; omega)))
                clear hb
                clear hs_a rt_a rc_a c0_a c1_a c2_a hs_y rt_y rc_y c0_y c1_y c2_y hs_x rt_x rc_x c0_x c1_x c2_x hB hs rt0 c00 c01 c10 c11 c20 c21 c22 c23 c24 c25
                obtain ⟨hs_a, rt_a, rc_a, c0_a, c1_a, c2_a, hs_y, rt_y, rc_y, c0_y, c1_y, c2_y, hs_x, rt_x, rc_x, c0_x, c1_x, c2_x, hB, hs, rt0, c00, c01, c10, c11, c20, c21, c22, c23, c24, c25⟩ := HX3.out _ hbk8.out
                go_wp2_with fail
                refine (shasE_any A u _ _ _ rt_a (by omega)).mono ?_
                rw [HH2.out]
                rintro e w9 ⟨rfl, hb⟩
                have hbk9 : Hid (Below wq7.heap.size wq7 w9) := hid (hbk8.out.trans (hb.mono (by first | omega | (simp; done) | (simp; omega))))
                clear hb
                clear hs_a rt_a rc_a c0_a c1_a c2_a hs_y rt_y rc_y c0_y c1_y c2_y hs_x rt_x rc_x c0_x c1_x c2_x hB hs rt0 c00 c01 c10 c11 c20 c21 c22 c23 c24 c25
                obtain ⟨hs_a, rt_a, rc_a, c0_a, c1_a, c2_a, hs_y, rt_y, rc_y, c0_y, c1_y, c2_y, hs_x, rt_x, rc_x, c0_x, c1_x, c2_x, hB, hs, rt0, c00, c01, c10, c11, c20, c21, c22, c23, c24, c25⟩ := HX3.out _ hbk9.out
                go_wp2_with fail
                refine (sdel_any A s f _ _ _ rt_a h1.1 (by omega) h2.2.2).mono ?_
                rw [HZC.out, HZE.out, ← HW.out]
                rintro e w10 ⟨xe10, xk10, xc10, rfl, hrd10, hsl10, hb⟩
                obtain ⟨A10x, n10x, B10x, m10x, rfl, rfl⟩ := rda_shape hrd10
                obtain ⟨D10x, k10x, rfl⟩ := hsl10.shape
                have hbk10 : Hid (Below wq7.heap.size wq7 w10) := hid (hbk9.out.trans (hb.mono (by first | omega | (simp; done) | (simp; omega))))
                clear hb
                clear hs_a rt_a rc_a c0_a c1_a c2_a hs_y rt_y rc_y c0_y c1_y c2_y hs_x rt_x rc_x c0_x c1_x c2_x hB hs rt0 c00 c01 c10 c11 c20 c21 c22 c23 c24 c25
                obtain ⟨hs_a, rt_a, rc_a, c0_a, c1_a, c2_a, hs_y, rt_y, rc_y, c0_y, c1_y, c2_y, hs_x, rt_x, rc_x, c0_x, c1_x, c2_x, hB, hs, rt0, c00, c01, c10, c11, c20, c21, c22, c23, c24, c25⟩ := HX3.out _ hbk10.out
                have hlt10962 : w.heap.size < w10.heap.size := by omega
                have hne10962 : w.heap.size ≠ w10.heap.size := by omega
                have hnr10962 : w10.heap.size ≠ w.heap.size := by omega
                have hlt10931 : (w.heap.size + 1) < w10.heap.size := by omega
                have hne10931 : (w.heap.size + 1) ≠ w10.heap.size := by omega
                have hnr10931 : w10.heap.size ≠ (w.heap.size + 1) := by omega
                have hlt10501 : (w.heap.size + 2) < w10.heap.size := by omega
                have hne10501 : (w.heap.size + 2) ≠ w10.heap.size := by omega
                have hnr10501 : w10.heap.size ≠ (w.heap.size + 2) := by omega
                have hlt108 : w3.heap.size < w10.heap.size := by omega
                have hne108 : w3.heap.size ≠ w10.heap.size := by omega
                have hnr108 : w10.heap.size ≠ w3.heap.size := by omega
                have hlt10128 : w4.heap.size < w10.heap.size := by omega
                have hne10128 : w4.heap.size ≠ w10.heap.size := by omega
                have hnr10128 : w10.heap.size ≠ w4.heap.size := by omega
                have hlt10432 : g7 < w10.heap.size := by omega
                have hne10432 : g7 ≠ w10.heap.size := by omega
                have hnr10432 : w10.heap.size ≠ g7 := by omega
                have HX4 : Hid (∀ W, Below (w10.heap.size + 1) (w10.alloc (.cells #[.slice A10x N0.es.length n10x, .slice B10x N0.ks.length m10x, .slice D10x Z.length k10x] 31)) W → (w10.heap.size + 1 ≤ (W).heap.size ∧ N0.rd W (W).heap.size (.slice A10x N0.es.length n10x) (.slice B10x N0.ks.length m10x) ∧ SlP W (W).heap.size 3 SpE (.slice D10x Z.length k10x) Z ∧ (W).cell? ⟨w10.heap.size, 0, none⟩ = some (.slice A10x N0.es.length n10x) ∧ (W).cell? ⟨w10.heap.size, 1, none⟩ = some (.slice B10x N0.ks.length m10x) ∧ (W).cell? ⟨w10.heap.size, 2, none⟩ = some (.slice D10x Z.length k10x) ∧ wq7.heap.size ≤ (W).heap.size ∧ A.rd W (W).heap.size (.slice A7x A.es.length n7x) (.slice B7x A.ks.length m7x) ∧ SlP W (W).heap.size 3 SpE (.slice D7x U.length k7x) U ∧ (W).cell? ⟨g7, 0, none⟩ = some (.slice A7x A.es.length n7x) ∧ (W).cell? ⟨g7, 1, none⟩ = some (.slice B7x A.ks.length m7x) ∧ (W).cell? ⟨g7, 2, none⟩ = some (.slice D7x U.length k7x) ∧ w4.heap.size + 1 ≤ (W).heap.size ∧ Y.rd W (W).heap.size (.slice A4x Y.es.length n4x) (.slice B4x Y.ks.length m4x) ∧ SlP W (W).heap.size 3 SpE (.slice D4x R.length k4x) R ∧ (W).cell? ⟨w4.heap.size, 0, none⟩ = some (.slice A4x Y.es.length n4x) ∧ (W).cell? ⟨w4.heap.size, 1, none⟩ = some (.slice B4x Y.ks.length m4x) ∧ (W).cell? ⟨w4.heap.size, 2, none⟩ = some (.slice D4x R.length k4x) ∧ w3.heap.size + 1 ≤ (W).heap.size ∧ X.rd W (W).heap.size (.slice A3x X.es.length n3x) (.slice B3x X.ks.length m3x) ∧ SlP W (W).heap.size 3 SpE (.slice D3x S.length k3x) S ∧ (W).cell? ⟨w3.heap.size, 0, none⟩ = some (.slice A3x X.es.length n3x) ∧ (W).cell? ⟨w3.heap.size, 1, none⟩ = some (.slice B3x X.ks.length m3x) ∧ (W).cell? ⟨w3.heap.size, 2, none⟩ = some (.slice D3x S.length k3x) ∧ Below w.heap.size w W ∧ w.heap.size + 3 ≤ (W).heap.size ∧ t.rd W (W).heap.size (.slice A0 t.es.length n0) (.slice B0 t.ks.length m0) ∧ (W).cell? ⟨w.heap.size, 0, none⟩ = some (.slice A0 t.es.length n0) ∧ (W).cell? ⟨w.heap.size, 1, none⟩ = some (.slice B0 t.ks.length m0) ∧ (W).cell? ⟨(w.heap.size + 1), 0, none⟩ = some (.string s) ∧ (W).cell? ⟨(w.heap.size + 1), 1, none⟩ = some (.string u) ∧ (W).cell? ⟨(w.heap.size + 2), 0, none⟩ = some (.int .i64 d.dc) ∧ (W).cell? ⟨(w.heap.size + 2), 1, none⟩ = some (.int .i64 d.n) ∧ (W).cell? ⟨(w.heap.size + 2), 2, none⟩ = some (.int .i64 e.dc) ∧ (W).cell? ⟨(w.heap.size + 2), 3, none⟩ = some (.int .i64 e.n) ∧ (W).cell? ⟨(w.heap.size + 2), 4, none⟩ = some (.int .i64 f.dc) ∧ (W).cell? ⟨(w.heap.size + 2), 5, none⟩ = some (.int .i64 f.n))) := fun W hW => by
                  have g0 := (hW.block w10.heap.size (by omega)).trans (heap_new rfl)
                  have hB : Below w10.heap.size w10 W := ((Below.refl _ w10).alloc (Nat.le_refl _) _).trans (hW.mono (by omega))
                  exact ⟨by have := hW.size; simpa using this, rda_rd hrd10 (fun b hb => hb.2) hB, hsl10.slp (fun b hb => hb.2) hB, cell_cells (i := 0) g0, cell_cells (i := 1) g0, cell_cells (i := 2) g0, HX3.out W (hbk10.out.trans (hB.mono (by omega)))⟩
                clear hrd10 hsl10
                go_wp2_with fail
                clear hs_a rt_a rc_a c0_a c1_a c2_a hs_y rt_y rc_y c0_y c1_y c2_y hs_x rt_x rc_x c0_x c1_x c2_x hB hs rt0 c00 c01 c10 c11 c20 c21 c22 c23 c24 c25
                obtain ⟨hs_z, rt_z, rc_z, c0_z, c1_z, c2_z, hs_a, rt_a, rc_a, c0_a, c1_a, c2_a, hs_y, rt_y, rc_y, c0_y, c1_y, c2_y, hs_x, rt_x, rc_x, c0_x, c1_x, c2_x, hB, hs, rt0, c00, c01, c10, c11, c20, c21, c22, c23, c24, c25⟩ := HX4.out _ (Below.refl _ _)
                refine (cJoin_any U Z A N0 _ _ _ _ _ _ _ rt_a rt_z rc_a rc_z (by omega) (by omega) (by omega) (by omega)).mono ?_
                rw [HJT.out, HJC.out, HJE.out]
                rintro e w11 ⟨xe11, xk11, xc11, rfl, hrd11, hsl11, hb⟩
                obtain ⟨A11x, n11x, B11x, m11x, rfl, rfl⟩ := rda_shape hrd11
                obtain ⟨D11x, k11x, rfl⟩ := hsl11.shape
                have hbk11 : Hid (Below (w10.heap.size + 1) (w10.alloc (.cells #[.slice A10x N0.es.length n10x, .slice B10x N0.ks.length m10x, .slice D10x Z.length k10x] 31)) w11) := hid (hb.mono (by first | omega | (simp; done) | (simp; omega)))
                clear hb
                clear hs_z rt_z rc_z c0_z c1_z c2_z hs_a rt_a rc_a c0_a c1_a c2_a hs_y rt_y rc_y c0_y c1_y c2_y hs_x rt_x rc_x c0_x c1_x c2_x hB hs rt0 c00 c01 c10 c11 c20 c21 c22 c23 c24 c25
                obtain ⟨hs_z, rt_z, rc_z, c0_z, c1_z, c2_z, hs_a, rt_a, rc_a, c0_a, c1_a, c2_a, hs_y, rt_y, rc_y, c0_y, c1_y, c2_y, hs_x, rt_x, rc_x, c0_x, c1_x, c2_x, hB, hs, rt0, c00, c01, c10, c11, c20, c21, c22, c23, c24, c25⟩ := HX4.out _ hbk11.out
                have hlt11962 : w.heap.size < w11.heap.size := by omega
                have hne11962 : w.heap.size ≠ w11.heap.size := by omega
                have hnr11962 : w11.heap.size ≠ w.heap.size := by omega
                have hlt11931 : (w.heap.size + 1) < w11.heap.size := by omega
                have hne11931 : (w.heap.size + 1) ≠ w11.heap.size := by omega
                have hnr11931 : w11.heap.size ≠ (w.heap.size + 1) := by omega
                have hlt11501 : (w.heap.size + 2) < w11.heap.size := by omega
                have hne11501 : (w.heap.size + 2) ≠ w11.heap.size := by omega
                have hnr11501 : w11.heap.size ≠ (w.heap.size + 2) := by omega
                have hlt118 : w3.heap.size < w11.heap.size := by omega
                have hne118 : w3.heap.size ≠ w11.heap.size := by omega
                have hnr118 : w11.heap.size ≠ w3.heap.size := by omega
                have hlt11128 : w4.heap.size < w11.heap.size := by omega
                have hne11128 : w4.heap.size ≠ w11.heap.size := by omega
                have hnr11128 : w11.heap.size ≠ w4.heap.size := by omega
                have hlt11432 : g7 < w11.heap.size := by omega
                have hne11432 : g7 ≠ w11.heap.size := by omega
                have hnr11432 : w11.heap.size ≠ g7 := by omega
                have hlt11804 : w10.heap.size < w11.heap.size := by omega
                have hne11804 : w10.heap.size ≠ w11.heap.size := by omega
                have hnr11804 : w11.heap.size ≠ w10.heap.size := by omega
                have HX5 : Hid (∀ W, Below (w11.heap.size + 1) (w11.alloc (.cells #[.slice A11x B.es.length n11x, .slice B11x B.ks.length m11x, .slice D11x V.length k11x] 31)) W → (w11.heap.size + 1 ≤ (W).heap.size ∧ B.rd W (W).heap.size (.slice A11x B.es.length n11x) (.slice B11x B.ks.length m11x) ∧ SlP W (W).heap.size 3 SpE (.slice D11x V.length k11x) V ∧ (W).cell? ⟨w11.heap.size, 0, none⟩ = some (.slice A11x B.es.length n11x) ∧ (W).cell? ⟨w11.heap.size, 1, none⟩ = some (.slice B11x B.ks.length m11x) ∧ (W).cell? ⟨w11.heap.size, 2, none⟩ = some (.slice D11x V.length k11x) ∧ w10.heap.size + 1 ≤ (W).heap.size ∧ N0.rd W (W).heap.size (.slice A10x N0.es.length n10x) (.slice B10x N0.ks.length m10x) ∧ SlP W (W).heap.size 3 SpE (.slice D10x Z.length k10x) Z ∧ (W).cell? ⟨w10.heap.size, 0, none⟩ = some (.slice A10x N0.es.length n10x) ∧ (W).cell? ⟨w10.heap.size, 1, none⟩ = some (.slice B10x N0.ks.length m10x) ∧ (W).cell? ⟨w10.heap.size, 2, none⟩ = some (.slice D10x Z.length k10x) ∧ wq7.heap.size ≤ (W).heap.size ∧ A.rd W (W).heap.size (.slice A7x A.es.length n7x) (.slice B7x A.ks.length m7x) ∧ SlP W (W).heap.size 3 SpE (.slice D7x U.length k7x) U ∧ (W).cell? ⟨g7, 0, none⟩ = some (.slice A7x A.es.length n7x) ∧ (W).cell? ⟨g7, 1, none⟩ = some (.slice B7x A.ks.length m7x) ∧ (W).cell? ⟨g7, 2, none⟩ = some (.slice D7x U.length k7x) ∧ w4.heap.size + 1 ≤ (W).heap.size ∧ Y.rd W (W).heap.size (.slice A4x Y.es.length n4x) (.slice B4x Y.ks.length m4x) ∧ SlP W (W).heap.size 3 SpE (.slice D4x R.length k4x) R ∧ (W).cell? ⟨w4.heap.size, 0, none⟩ = some (.slice A4x Y.es.length n4x) ∧ (W).cell? ⟨w4.heap.size, 1, none⟩ = some (.slice B4x Y.ks.length m4x) ∧ (W).cell? ⟨w4.heap.size, 2, none⟩ = some (.slice D4x R.length k4x) ∧ w3.heap.size + 1 ≤ (W).heap.size ∧ X.rd W (W).heap.size (.slice A3x X.es.length n3x) (.slice B3x X.ks.length m3x) ∧ SlP W (W).heap.size 3 SpE (.slice D3x S.length k3x) S ∧ (W).cell? ⟨w3.heap.size, 0, none⟩ = some (.slice A3x X.es.length n3x) ∧ (W).cell? ⟨w3.heap.size, 1, none⟩ = some (.slice B3x X.ks.length m3x) ∧ (W).cell? ⟨w3.heap.size, 2, none⟩ = some (.slice D3x S.length k3x) ∧ Below w.heap.size w W ∧ w.heap.size + 3 ≤ (W).heap.size ∧ t.rd W (W).heap.size (.slice A0 t.es.length n0) (.slice B0 t.ks.length m0) ∧ (W).cell? ⟨w.heap.size, 0, none⟩ = some (.slice A0 t.es.length n0) ∧ (W).cell? ⟨w.heap.size, 1, none⟩ = some (.slice B0 t.ks.length m0) ∧ (W).cell? ⟨(w.heap.size + 1), 0, none⟩ = some (.string s) ∧ (W).cell? ⟨(w.heap.size + 1), 1, none⟩ = some (.string u) ∧ (W).cell? ⟨(w.heap.size + 2), 0, none⟩ = some (.int .i64 d.dc) ∧ (W).cell? ⟨(w.heap.size + 2), 1, none⟩ = some (.int .i64 d.n) ∧ (W).cell? ⟨(w.heap.size + 2), 2, none⟩ = some (.int .i64 e.dc) ∧ (W).cell? ⟨(w.heap.size + 2), 3, none⟩ = some (.int .i64 e.n) ∧ (W).cell? ⟨(w.heap.size + 2), 4, none⟩ = some (.int .i64 f.dc) ∧ (W).cell? ⟨(w.heap.size + 2), 5, none⟩ = some (.int .i64 f.n))) := fun W hW => by
                  have g0 := (hW.block w11.heap.size (by omega)).trans (heap_new rfl)
                  have hB : Below w11.heap.size w11 W := ((Below.refl _ w11).alloc (Nat.le_refl _) _).trans (hW.mono (by omega))
                  exact ⟨by have := hW.size; simpa using this, rda_rd hrd11 (fun b hb => hb.2) hB, hsl11.slp (fun b hb => hb.2) hB, cell_cells (i := 0) g0, cell_cells (i := 1) g0, cell_cells (i := 2) g0, HX4.out W (hbk11.out.trans (hB.mono (by omega)))⟩
                clear hrd11 hsl11
                go_wp2_with fail
                clear hs_z rt_z rc_z c0_z c1_z c2_z hs_a rt_a rc_a c0_a c1_a c2_a hs_y rt_y rc_y c0_y c1_y c2_y hs_x rt_x rc_x c0_x c1_x c2_x hB hs rt0 c00 c01 c10 c11 c20 c21 c22 c23 c24 c25
                obtain ⟨hs_b, rt_b, rc_b, c0_b, c1_b, c2_b, hs_z, rt_z, rc_z, c0_z, c1_z, c2_z, hs_a, rt_a, rc_a, c0_a, c1_a, c2_a, hs_y, rt_y, rc_y, c0_y, c1_y, c2_y, hs_x, rt_x, rc_x, c0_x, c1_x, c2_x, hB, hs, rt0, c00, c01, c10, c11, c20, c21, c22, c23, c24, c25⟩ := HX5.out _ (Below.refl _ _)
                cases hsu : decide (s = u)
                · have heq : (s.toList == u.toList) = false := by simpa [bytes_inj] using hsu
                  rw [hsu] at HB2
                  clear hsu
                  go_upto_region 16 with (fail)
                  have HK2 : Hid (∀ W, Below (w11.heap.size + 1) (w11.alloc (.cells #[.slice A11x B.es.length n11x, .slice B11x B.ks.length m11x, .slice D11x V.length k11x] 31)) W → ((W).cell? ⟨w11.heap.size, 0, none⟩ = some (.slice A11x B.es.length n11x) ∧ (W).cell? ⟨w11.heap.size, 1, none⟩ = some (.slice B11x B.ks.length m11x) ∧ (W).cell? ⟨(w.heap.size + 1), 0, none⟩ = some (.string s) ∧ (W).cell? ⟨(w.heap.size + 1), 1, none⟩ = some (.string u))) := fun W hW => by
                    obtain ⟨_, _, _, z_c0_b, z_c1_b, _, _, _, _, _, _, _, _, _, _, _, _, _, _, _, _, _, _, _, _, _, _, _, _, _, _, _, _, _, _, z_c10, z_c11, _, _, _, _, _, _⟩ := HX5.out W hW
                    exact ⟨z_c0_b, z_c1_b, z_c10, z_c11⟩
                  have Hrt_b_2 : Hid (∀ W, Below (w11.heap.size + 1) (w11.alloc (.cells #[.slice A11x B.es.length n11x, .slice B11x B.ks.length m11x, .slice D11x V.length k11x] 31)) W → B.rd W (W).heap.size (.slice A11x B.es.length n11x) (.slice B11x B.ks.length m11x)) := fun W hW => by
                    obtain ⟨_, z, _, _, _, _, _, _, _, _, _, _, _, _, _, _, _, _, _, _, _, _, _, _, _, _, _, _, _, _, _, _, _, _, _, _, _, _, _, _, _, _, _⟩ := HX5.out W hW
                    exact z
                  have Hrc_b_2 : Hid (∀ W, Below (w11.heap.size + 1) (w11.alloc (.cells #[.slice A11x B.es.length n11x, .slice B11x B.ks.length m11x, .slice D11x V.length k11x] 31)) W → SlP W (W).heap.size 3 SpE (.slice D11x V.length k11x) V) := fun W hW => by
                    obtain ⟨_, _, z, _, _, _, _, _, _, _, _, _, _, _, _, _, _, _, _, _, _, _, _, _, _, _, _, _, _, _, _, _, _, _, _, _, _, _, _, _, _, _, _⟩ := HX5.out W hW
                    exact z
                  have Hrt_z_2 : Hid (∀ W, Below (w11.heap.size + 1) (w11.alloc (.cells #[.slice A11x B.es.length n11x, .slice B11x B.ks.length m11x, .slice D11x V.length k11x] 31)) W → N0.rd W (W).heap.size (.slice A10x N0.es.length n10x) (.slice B10x N0.ks.length m10x)) := fun W hW => by
                    obtain ⟨_, _, _, _, _, _, _, z, _, _, _, _, _, _, _, _, _, _, _, _, _, _, _, _, _, _, _, _, _, _, _, _, _, _, _, _, _, _, _, _, _, _, _⟩ := HX5.out W hW
                    exact z
                  have Hrc_z_2 : Hid (∀ W, Below (w11.heap.size + 1) (w11.alloc (.cells #[.slice A11x B.es.length n11x, .slice B11x B.ks.length m11x, .slice D11x V.length k11x] 31)) W → SlP W (W).heap.size 3 SpE (.slice D10x Z.length k10x) Z) := fun W hW => by
                    obtain ⟨_, _, _, _, _, _, _, _, z, _, _, _, _, _, _, _, _, _, _, _, _, _, _, _, _, _, _, _, _, _, _, _, _, _, _, _, _, _, _, _, _, _, _⟩ := HX5.out W hW
                    exact z
                  have Hrt_a_2 : Hid (∀ W, Below (w11.heap.size + 1) (w11.alloc (.cells #[.slice A11x B.es.length n11x, .slice B11x B.ks.length m11x, .slice D11x V.length k11x] 31)) W → A.rd W (W).heap.size (.slice A7x A.es.length n7x) (.slice B7x A.ks.length m7x)) := fun W hW => by
                    obtain ⟨_, _, _, _, _, _, _, _, _, _, _, _, _, z, _, _, _, _, _, _, _, _, _, _, _, _, _, _, _, _, _, _, _, _, _, _, _, _, _, _, _, _, _⟩ := HX5.out W hW
                    exact z
                  have Hrc_a_2 : Hid (∀ W, Below (w11.heap.size + 1) (w11.alloc (.cells #[.slice A11x B.es.length n11x, .slice B11x B.ks.length m11x, .slice D11x V.length k11x] 31)) W → SlP W (W).heap.size 3 SpE (.slice D7x U.length k7x) U) := fun W hW => by
                    obtain ⟨_, _, _, _, _, _, _, _, _, _, _, _, _, _, z, _, _, _, _, _, _, _, _, _, _, _, _, _, _, _, _, _, _, _, _, _, _, _, _, _, _, _, _⟩ := HX5.out W hW
                    exact z
                  have Hrt_y_2 : Hid (∀ W, Below (w11.heap.size + 1) (w11.alloc (.cells #[.slice A11x B.es.length n11x, .slice B11x B.ks.length m11x, .slice D11x V.length k11x] 31)) W → Y.rd W (W).heap.size (.slice A4x Y.es.length n4x) (.slice B4x Y.ks.length m4x)) := fun W hW => by
                    obtain ⟨_, _, _, _, _, _, _, _, _, _, _, _, _, _, _, _, _, _, _, z, _, _, _, _, _, _, _, _, _, _, _, _, _, _, _, _, _, _, _, _, _, _, _⟩ := HX5.out W hW
                    exact z
                  have Hrc_y_2 : Hid (∀ W, Below (w11.heap.size + 1) (w11.alloc (.cells #[.slice A11x B.es.length n11x, .slice B11x B.ks.length m11x, .slice D11x V.length k11x] 31)) W → SlP W (W).heap.size 3 SpE (.slice D4x R.length k4x) R) := fun W hW => by
                    obtain ⟨_, _, _, _, _, _, _, _, _, _, _, _, _, _, _, _, _, _, _, _, z, _, _, _, _, _, _, _, _, _, _, _, _, _, _, _, _, _, _, _, _, _, _⟩ := HX5.out W hW
                    exact z
                  have Hrt_x_2 : Hid (∀ W, Below (w11.heap.size + 1) (w11.alloc (.cells #[.slice A11x B.es.length n11x, .slice B11x B.ks.length m11x, .slice D11x V.length k11x] 31)) W → X.rd W (W).heap.size (.slice A3x X.es.length n3x) (.slice B3x X.ks.length m3x)) := fun W hW => by
                    obtain ⟨_, _, _, _, _, _, _, _, _, _, _, _, _, _, _, _, _, _, _, _, _, _, _, _, _, z, _, _, _, _, _, _, _, _, _, _, _, _, _, _, _, _, _⟩ := HX5.out W hW
                    exact z
                  have Hrc_x_2 : Hid (∀ W, Below (w11.heap.size + 1) (w11.alloc (.cells #[.slice A11x B.es.length n11x, .slice B11x B.ks.length m11x, .slice D11x V.length k11x] 31)) W → SlP W (W).heap.size 3 SpE (.slice D3x S.length k3x) S) := fun W hW => by
                    obtain ⟨_, _, _, _, _, _, _, _, _, _, _, _, _, _, _, _, _, _, _, _, _, _, _, _, _, _, z, _, _, _, _, _, _, _, _, _, _, _, _, _, _, _, _⟩ := HX5.out W hW
                    exact z
                  have Hrt0_2 : Hid (∀ W, Below (w11.heap.size + 1) (w11.alloc (.cells #[.slice A11x B.es.length n11x, .slice B11x B.ks.length m11x, .slice D11x V.length k11x] 31)) W → t.rd W (W).heap.size (.slice A0 t.es.length n0) (.slice B0 t.ks.length m0)) := fun W hW => by
                    obtain ⟨_, _, _, _, _, _, _, _, _, _, _, _, _, _, _, _, _, _, _, _, _, _, _, _, _, _, _, _, _, _, _, _, z, _, _, _, _, _, _, _, _, _, _⟩ := HX5.out W hW
                    exact z
                  have HS_2 : Hid (∀ W, Below (w11.heap.size + 1) (w11.alloc (.cells #[.slice A11x B.es.length n11x, .slice B11x B.ks.length m11x, .slice D11x V.length k11x] 31)) W → (w11.heap.size + 1) ≤ W.heap.size) := fun W hW => by
                    have := hW.size
                    first | omega | (simp at this; omega)
                  have hsb2 := HS_2.out _ (Below.refl _ _)
                  clear rt_b rc_b c2_b rt_z rc_z c0_z c1_z c2_z rt_a rc_a c0_a c1_a c2_a rt_y rc_y c0_y c1_y c2_y rt_x rc_x c0_x c1_x c2_x hB rt0 c00 c01 c20 c21 c22 c23 c24 c25
                  go_region_held3 (fun W => (W).cell? ⟨w11.heap.size, 0, none⟩ = some (.slice A11x B.es.length n11x) ∧ (W).cell? ⟨w11.heap.size, 1, none⟩ = some (.slice B11x B.ks.length m11x) ∧ (W).cell? ⟨(w.heap.size + 1), 0, none⟩ = some (.string s) ∧ (W).cell? ⟨(w.heap.size + 1), 1, none⟩ = some (.string u))
                    (first | go_keep | exact HK2.out _ hbr13.out | exact HK2.out _ (hbr13.out.trans (by go_grown)) | exact HK2.out _ hbr12.out | exact HK2.out _ (hbr12.out.trans (by go_grown)) | exact HK2.out _ (((hbr13.out.setCell (by first | (simp; done) | (simp; omega)) _).setCell (by first | (simp; done) | (simp; omega)) _).setCell (by first | (simp; done) | (simp; omega)) _) | exact HK2.out _ (by go_grown) | fail)
                    (first
                      | (go_at_call 72; go_loud ((refine (shasE_any B u _ _ _ (Hrt_b_2.out _ (hbr12.out.trans (by go_grown))) (by omega)).mono ?_); rw [HB2.out]; rintro e w13 ⟨rfl, hb⟩; have hbr13 : Hid (Below (w11.heap.size + 1) (w11.alloc (.cells #[.slice A11x B.es.length n11x, .slice B11x B.ks.length m11x, .slice D11x V.length k11x] 31)) w13) := hid (Below.trans (hbr12.out.trans (by go_grown)) (hb.mono (by first | omega | (simp; done) | (simp; omega)))); have hsr13 := HS_2.out _ hbr13.out; have hch12_13 : Hid (Below w12.heap.size w12 w13) := hid (Below.trans (by go_grown) (hb.mono (by first | omega | (simp; done) | (simp; omega)))); clear hb))
                      | (go_at_call 72; go_loud ((refine (shasE_any B s _ _ _ (Hrt_b_2.out _ (by go_grown)) (by omega)).mono ?_); rw [HB1.out]; rintro e w12 ⟨rfl, hb⟩; have hbr12 : Hid (Below (w11.heap.size + 1) (w11.alloc (.cells #[.slice A11x B.es.length n11x, .slice B11x B.ks.length m11x, .slice D11x V.length k11x] 31)) w12) := hid (Below.trans (by go_grown) (hb.mono (by first | omega | (simp; done) | (simp; omega)))); have hsr12 := HS_2.out _ hbr12.out; clear hb)))
                  all_goals (
                    obtain ⟨hs_b, rt_b, rc_b, c0_b, c1_b, c2_b, hs_z, rt_z, rc_z, c0_z, c1_z, c2_z, hs_a, rt_a, rc_a, c0_a, c1_a, c2_a, hs_y, rt_y, rc_y, c0_y, c1_y, c2_y, hs_x, rt_x, rc_x, c0_x, c1_x, c2_x, hB, hs, rt0, c00, c01, c10, c11, c20, c21, c22, c23, c24, c25⟩ := HX5.out _ hbr13.out
                    go_wp2_with fail
                    go_ret
                    exact ⟨rfl, hB⟩)
                · have heq : (s.toList == u.toList) = true := by have := of_decide_eq_true hsu; rw [this]; simp
                  rw [hsu] at HB2
                  clear hsu
                  go_upto_region 16 with (fail)
                  have HK2 : Hid (∀ W, Below (w11.heap.size + 1) (w11.alloc (.cells #[.slice A11x B.es.length n11x, .slice B11x B.ks.length m11x, .slice D11x V.length k11x] 31)) W → ((W).cell? ⟨w11.heap.size, 0, none⟩ = some (.slice A11x B.es.length n11x) ∧ (W).cell? ⟨w11.heap.size, 1, none⟩ = some (.slice B11x B.ks.length m11x) ∧ (W).cell? ⟨(w.heap.size + 1), 0, none⟩ = some (.string s) ∧ (W).cell? ⟨(w.heap.size + 1), 1, none⟩ = some (.string u))) := fun W hW => by
                    obtain ⟨_, _, _, z_c0_b, z_c1_b, _, _, _, _, _, _, _, _, _, _, _, _, _, _, _, _, _, _, _, _, _, _, _, _, _, _, _, _, _, _, z_c10, z_c11, _, _, _, _, _, _⟩ := HX5.out W hW
                    exact ⟨z_c0_b, z_c1_b, z_c10, z_c11⟩
                  have Hrt_b_2 : Hid (∀ W, Below (w11.heap.size + 1) (w11.alloc (.cells #[.slice A11x B.es.length n11x, .slice B11x B.ks.length m11x, .slice D11x V.length k11x] 31)) W → B.rd W (W).heap.size (.slice A11x B.es.length n11x) (.slice B11x B.ks.length m11x)) := fun W hW => by
                    obtain ⟨_, z, _, _, _, _, _, _, _, _, _, _, _, _, _, _, _, _, _, _, _, _, _, _, _, _, _, _, _, _, _, _, _, _, _, _, _, _, _, _, _, _, _⟩ := HX5.out W hW
                    exact z
                  have Hrc_b_2 : Hid (∀ W, Below (w11.heap.size + 1) (w11.alloc (.cells #[.slice A11x B.es.length n11x, .slice B11x B.ks.length m11x, .slice D11x V.length k11x] 31)) W → SlP W (W).heap.size 3 SpE (.slice D11x V.length k11x) V) := fun W hW => by
                    obtain ⟨_, _, z, _, _, _, _, _, _, _, _, _, _, _, _, _, _, _, _, _, _, _, _, _, _, _, _, _, _, _, _, _, _, _, _, _, _, _, _, _, _, _, _⟩ := HX5.out W hW
                    exact z
                  have Hrt_z_2 : Hid (∀ W, Below (w11.heap.size + 1) (w11.alloc (.cells #[.slice A11x B.es.length n11x, .slice B11x B.ks.length m11x, .slice D11x V.length k11x] 31)) W → N0.rd W (W).heap.size (.slice A10x N0.es.length n10x) (.slice B10x N0.ks.length m10x)) := fun W hW => by
                    obtain ⟨_, _, _, _, _, _, _, z, _, _, _, _, _, _, _, _, _, _, _, _, _, _, _, _, _, _, _, _, _, _, _, _, _, _, _, _, _, _, _, _, _, _, _⟩ := HX5.out W hW
                    exact z
                  have Hrc_z_2 : Hid (∀ W, Below (w11.heap.size + 1) (w11.alloc (.cells #[.slice A11x B.es.length n11x, .slice B11x B.ks.length m11x, .slice D11x V.length k11x] 31)) W → SlP W (W).heap.size 3 SpE (.slice D10x Z.length k10x) Z) := fun W hW => by
                    obtain ⟨_, _, _, _, _, _, _, _, z, _, _, _, _, _, _, _, _, _, _, _, _, _, _, _, _, _, _, _, _, _, _, _, _, _, _, _, _, _, _, _, _, _, _⟩ := HX5.out W hW
                    exact z
                  have Hrt_a_2 : Hid (∀ W, Below (w11.heap.size + 1) (w11.alloc (.cells #[.slice A11x B.es.length n11x, .slice B11x B.ks.length m11x, .slice D11x V.length k11x] 31)) W → A.rd W (W).heap.size (.slice A7x A.es.length n7x) (.slice B7x A.ks.length m7x)) := fun W hW => by
                    obtain ⟨_, _, _, _, _, _, _, _, _, _, _, _, _, z, _, _, _, _, _, _, _, _, _, _, _, _, _, _, _, _, _, _, _, _, _, _, _, _, _, _, _, _, _⟩ := HX5.out W hW
                    exact z
                  have Hrc_a_2 : Hid (∀ W, Below (w11.heap.size + 1) (w11.alloc (.cells #[.slice A11x B.es.length n11x, .slice B11x B.ks.length m11x, .slice D11x V.length k11x] 31)) W → SlP W (W).heap.size 3 SpE (.slice D7x U.length k7x) U) := fun W hW => by
                    obtain ⟨_, _, _, _, _, _, _, _, _, _, _, _, _, _, z, _, _, _, _, _, _, _, _, _, _, _, _, _, _, _, _, _, _, _, _, _, _, _, _, _, _, _, _⟩ := HX5.out W hW
                    exact z
                  have Hrt_y_2 : Hid (∀ W, Below (w11.heap.size + 1) (w11.alloc (.cells #[.slice A11x B.es.length n11x, .slice B11x B.ks.length m11x, .slice D11x V.length k11x] 31)) W → Y.rd W (W).heap.size (.slice A4x Y.es.length n4x) (.slice B4x Y.ks.length m4x)) := fun W hW => by
                    obtain ⟨_, _, _, _, _, _, _, _, _, _, _, _, _, _, _, _, _, _, _, z, _, _, _, _, _, _, _, _, _, _, _, _, _, _, _, _, _, _, _, _, _, _, _⟩ := HX5.out W hW
                    exact z
                  have Hrc_y_2 : Hid (∀ W, Below (w11.heap.size + 1) (w11.alloc (.cells #[.slice A11x B.es.length n11x, .slice B11x B.ks.length m11x, .slice D11x V.length k11x] 31)) W → SlP W (W).heap.size 3 SpE (.slice D4x R.length k4x) R) := fun W hW => by
                    obtain ⟨_, _, _, _, _, _, _, _, _, _, _, _, _, _, _, _, _, _, _, _, z, _, _, _, _, _, _, _, _, _, _, _, _, _, _, _, _, _, _, _, _, _, _⟩ := HX5.out W hW
                    exact z
                  have Hrt_x_2 : Hid (∀ W, Below (w11.heap.size + 1) (w11.alloc (.cells #[.slice A11x B.es.length n11x, .slice B11x B.ks.length m11x, .slice D11x V.length k11x] 31)) W → X.rd W (W).heap.size (.slice A3x X.es.length n3x) (.slice B3x X.ks.length m3x)) := fun W hW => by
                    obtain ⟨_, _, _, _, _, _, _, _, _, _, _, _, _, _, _, _, _, _, _, _, _, _, _, _, _, z, _, _, _, _, _, _, _, _, _, _, _, _, _, _, _, _, _⟩ := HX5.out W hW
                    exact z
                  have Hrc_x_2 : Hid (∀ W, Below (w11.heap.size + 1) (w11.alloc (.cells #[.slice A11x B.es.length n11x, .slice B11x B.ks.length m11x, .slice D11x V.length k11x] 31)) W → SlP W (W).heap.size 3 SpE (.slice D3x S.length k3x) S) := fun W hW => by
                    obtain ⟨_, _, _, _, _, _, _, _, _, _, _, _, _, _, _, _, _, _, _, _, _, _, _, _, _, _, z, _, _, _, _, _, _, _, _, _, _, _, _, _, _, _, _⟩ := HX5.out W hW
                    exact z
                  have Hrt0_2 : Hid (∀ W, Below (w11.heap.size + 1) (w11.alloc (.cells #[.slice A11x B.es.length n11x, .slice B11x B.ks.length m11x, .slice D11x V.length k11x] 31)) W → t.rd W (W).heap.size (.slice A0 t.es.length n0) (.slice B0 t.ks.length m0)) := fun W hW => by
                    obtain ⟨_, _, _, _, _, _, _, _, _, _, _, _, _, _, _, _, _, _, _, _, _, _, _, _, _, _, _, _, _, _, _, _, z, _, _, _, _, _, _, _, _, _, _⟩ := HX5.out W hW
                    exact z
                  have HS_2 : Hid (∀ W, Below (w11.heap.size + 1) (w11.alloc (.cells #[.slice A11x B.es.length n11x, .slice B11x B.ks.length m11x, .slice D11x V.length k11x] 31)) W → (w11.heap.size + 1) ≤ W.heap.size) := fun W hW => by
                    have := hW.size
                    first | omega | (simp at this; omega)
                  have hsb2 := HS_2.out _ (Below.refl _ _)
                  clear rt_b rc_b c2_b rt_z rc_z c0_z c1_z c2_z rt_a rc_a c0_a c1_a c2_a rt_y rc_y c0_y c1_y c2_y rt_x rc_x c0_x c1_x c2_x hB rt0 c00 c01 c20 c21 c22 c23 c24 c25
                  go_region_held3 (fun W => (W).cell? ⟨w11.heap.size, 0, none⟩ = some (.slice A11x B.es.length n11x) ∧ (W).cell? ⟨w11.heap.size, 1, none⟩ = some (.slice B11x B.ks.length m11x) ∧ (W).cell? ⟨(w.heap.size + 1), 0, none⟩ = some (.string s) ∧ (W).cell? ⟨(w.heap.size + 1), 1, none⟩ = some (.string u))
                    (first | go_keep | exact HK2.out _ hbr13.out | exact HK2.out _ (hbr13.out.trans (by go_grown)) | exact HK2.out _ hbr12.out | exact HK2.out _ (hbr12.out.trans (by go_grown)) | exact HK2.out _ (((hbr13.out.setCell (by first | (simp; done) | (simp; omega)) _).setCell (by first | (simp; done) | (simp; omega)) _).setCell (by first | (simp; done) | (simp; omega)) _) | exact HK2.out _ (by go_grown) | fail)
                    (first
                      | (go_at_call 72; go_loud ((refine (shasE_any B u _ _ _ (Hrt_b_2.out _ (hbr12.out.trans (by go_grown))) (by omega)).mono ?_); rw [HB2.out]; rintro e w13 ⟨rfl, hb⟩; have hbr13 : Hid (Below (w11.heap.size + 1) (w11.alloc (.cells #[.slice A11x B.es.length n11x, .slice B11x B.ks.length m11x, .slice D11x V.length k11x] 31)) w13) := hid (Below.trans (hbr12.out.trans (by go_grown)) (hb.mono (by first | omega | (simp; done) | (simp; omega)))); have hsr13 := HS_2.out _ hbr13.out; have hch12_13 : Hid (Below w12.heap.size w12 w13) := hid (Below.trans (by go_grown) (hb.mono (by first | omega | (simp; done) | (simp; omega)))); clear hb))
                      | (go_at_call 72; go_loud ((refine (shasE_any B s _ _ _ (Hrt_b_2.out _ (by go_grown)) (by omega)).mono ?_); rw [HB1.out]; rintro e w12 ⟨rfl, hb⟩; have hbr12 : Hid (Below (w11.heap.size + 1) (w11.alloc (.cells #[.slice A11x B.es.length n11x, .slice B11x B.ks.length m11x, .slice D11x V.length k11x] 31)) w12) := hid (Below.trans (by go_grown) (hb.mono (by first | omega | (simp; done) | (simp; omega)))); have hsr12 := HS_2.out _ hbr12.out; clear hb)))
                  all_goals (
                    obtain ⟨hs_b, rt_b, rc_b, c0_b, c1_b, c2_b, hs_z, rt_z, rc_z, c0_z, c1_z, c2_z, hs_a, rt_a, rc_a, c0_a, c1_a, c2_a, hs_y, rt_y, rc_y, c0_y, c1_y, c2_y, hs_x, rt_x, rc_x, c0_x, c1_x, c2_x, hB, hs, rt0, c00, c01, c10, c11, c20, c21, c22, c23, c24, c25⟩ := HX5.out _ hbr13.out
                    go_wp2_with fail
                    go_ret
                    exact ⟨rfl, hB⟩)
        · rw [fl] at hfi
          go_wp2_with fail
          refine (awake11_any _).mono ?_
          rintro e w3 ⟨rfl, hb⟩
          have hbk3 : Hid (Below (w.heap.size + 3) (((w.alloc (.cells #[.slice A0 t.es.length n0, .slice B0 t.ks.length m0] 27)).alloc (.cells #[.string s, .string u] 74)).alloc (.cells #[.int .i64 d.dc, .int .i64 d.n, .int .i64 e.dc, .int .i64 e.n, .int .i64 f.dc, .int .i64 f.n] 60)) w3) := hid (hbk2.out.trans (hb.mono (by first | omega | (simp; done) | (simp; omega))))
          clear hb
          clear hB hs rt0 c00 c01 c10 c11 c20 c21 c22 c23 c24 c25
          obtain ⟨hB, hs, rt0, c00, c01, c10, c11, c20, c21, c22, c23, c24, c25⟩ := HX0.out _ hbk3.out
          go_wp2_with fail
          go_ret
          exact ⟨rfl, hB⟩
      · go_wp2_with fail
        refine (awake11_any _).mono ?_
        rintro e w3 ⟨rfl, hb⟩
        have hbk3 : Hid (Below (w.heap.size + 3) (((w.alloc (.cells #[.slice A0 t.es.length n0, .slice B0 t.ks.length m0] 27)).alloc (.cells #[.string s, .string u] 74)).alloc (.cells #[.int .i64 d.dc, .int .i64 d.n, .int .i64 e.dc, .int .i64 e.n, .int .i64 f.dc, .int .i64 f.n] 60)) w3) := hid (hbk2.out.trans (hb.mono (by first | omega | (simp; done) | (simp; omega))))
        clear hb
        clear hB hs rt0 c00 c01 c10 c11 c20 c21 c22 c23 c24 c25
        obtain ⟨hB, hs, rt0, c00, c01, c10, c11, c20, c21, c22, c23, c24, c25⟩ := HX0.out _ hbk3.out
        go_wp2_with fail
        go_ret
        exact ⟨rfl, hB⟩
    · go_wp2_with fail
      refine (awake11_any _).mono ?_
      rintro e w3 ⟨rfl, hb⟩
      have hbk3 : Hid (Below (w.heap.size + 3) (((w.alloc (.cells #[.slice A0 t.es.length n0, .slice B0 t.ks.length m0] 27)).alloc (.cells #[.string s, .string u] 74)).alloc (.cells #[.int .i64 d.dc, .int .i64 d.n, .int .i64 e.dc, .int .i64 e.n, .int .i64 f.dc, .int .i64 f.n] 60)) w3) := hid (hbk2.out.trans (hb.mono (by first | omega | (simp; done) | (simp; omega))))
      clear hb
      clear hB hs rt0 c00 c01 c10 c11 c20 c21 c22 c23 c24 c25
      obtain ⟨hB, hs, rt0, c00, c01, c10, c11, c20, c21, c22, c23, c24, c25⟩ := HX0.out _ hbk3.out
      go_wp2_with fail
      go_ret
      exact ⟨rfl, hB⟩
  · go_wp2_with fail
    refine (awake11_any _).mono ?_
    rintro e w3 ⟨rfl, hb⟩
    have hbk3 : Hid (Below (w.heap.size + 3) (((w.alloc (.cells #[.slice A0 t.es.length n0, .slice B0 t.ks.length m0] 27)).alloc (.cells #[.string s, .string u] 74)).alloc (.cells #[.int .i64 d.dc, .int .i64 d.n, .int .i64 e.dc, .int .i64 e.n, .int .i64 f.dc, .int .i64 f.n] 60)) w3) := hid (hbk2.out.trans (hb.mono (by first | omega | (simp; done) | (simp; omega))))
    clear hb
    clear hB hs rt0 c00 c01 c10 c11 c20 c21 c22 c23 c24 c25
    obtain ⟨hB, hs, rt0, c00, c01, c10, c11, c20, c21, c22, c23, c24, c25⟩ := HX0.out _ hbk3.out
    go_wp2_with fail
    go_ret
    exact ⟨rfl, hB⟩
end Go.Proofs.YtmphgnjodangcaaGreat

namespace Go.Proofs.YtmphgnjodangcaaGreat
open Go.ChangeShapes Go.WideShapes Go.ChangeAt Go.RowKit
set_option maxRecDepth 100000

theorem okStrings : Tryz.prog.readableRec 39 = true ∧ 39 < Tryz.prog.types.size := ⟨by kernel_rfl, of_decide_eq_true (by kernel_rfl)⟩
theorem bytesString : Tryz.prog.bytesOf 9 = 16 := by kernel_rfl
theorem str_open {H : Type} {enc : TypeId × Value → H} {w : World} {fuel : Nat} {cs : List Value} {x : DataW H × List MemPlace} (h : DataW.trod enc Tryz.prog w 0 (fun _ => true) true fuel 9 cs = some x) (hw : Wt Tryz.prog 9 x.1) : ∃ s : ByteArray, StE s cs := by
  obtain ⟨s, e, hy, _⟩ := DataW.trod_string Tryz.underlying9 h
  refine ⟨s, e, ?_⟩
  have := hw s.size (by rw [hy]; simp [DataW.weights])
  unfold reachBytes at this; unfold Big; omega
theorem strs_arg {H : Type} {enc : TypeId × Value → H} {W : World} {base : Nat} {v : Value} {d : DataW H} {p : List MemPlace} (hv : Value.okWide Tryz.prog W .any base 39 v) (h : DataW.Trod enc Tryz.prog W 0 (fun _ => true) true 39 v d p) (hw : Wt Tryz.prog 39 d) :
    ∃ l : List ByteArray, SlP W W.heap.size 1 StE v l := by
  obtain ⟨a, len, cap, rfl⟩ := okWide_slice Tryz.underlying39 hv
  obtain ⟨fuel, hf⟩ := h
  obtain ⟨v', l, e, hl⟩ := slc_open (E := StE) Tryz.underlying39 cellsOne.1 (by decide) bytesString (by decide) hf hw fun _ _ _ _ hy hwy => str_open hy hwy
  simp [Value.cells] at e
  subst e
  exact ⟨l, hl⟩
end Go.Proofs.YtmphgnjodangcaaGreat

namespace Go.Proofs.YtmphgnjodangcaaGreat
open Go.ChangeShapes Go.WideShapes Go.ChangeAt Go.RowKit
set_option maxRecDepth 100000

theorem okWide_array {P : Program} {w : World} {r : Reach} {base : Nat} {t : TypeId} {v : Value} {n : Nat} {e : TypeId} (ht : P.underlying t = some (.array n e)) (h : Value.okWide P w r base t v) : ∃ cs, v = .agg cs ∧ cs.size = P.cellsOf t := by
  simp only [Value.okWide, ht] at h
  obtain ⟨cs, h1, h2, _⟩ := h
  exact ⟨cs, h1, h2⟩
theorem Wt.arr {H : Type} {P : Program} {t e : TypeId} {n : Nat} {parts : List (DataW H)} (hu : P.underlying t = some (.array n e)) (h : Wt P t (.agg parts)) : ∀ d ∈ parts, Wt P e d := fun d hd m hm => by
  refine h m ?_
  unfold DataW.weights
  rw [hu]
  exact Wt.all hd m hm
section
variable {H : Type} {enc : TypeId × Value → H} {W : World}
theorem okCausals : Tryz.prog.readableRec 22 = true ∧ 22 < Tryz.prog.types.size := ⟨by kernel_rfl, of_decide_eq_true (by kernel_rfl)⟩
theorem bytesCausal : Tryz.prog.bytesOf 31 = 72 := by kernel_rfl
theorem cas_arg {base : Nat} {v : Value} {d : DataW H} {p : List MemPlace} (hv : Value.okWide Tryz.prog W .any base 22 v) (h : DataW.Trod enc Tryz.prog W 0 (fun _ => true) true 22 v d p) (hw : Wt Tryz.prog 22 d) :
    ∃ l : List (Tr × List Sp), SlP W W.heap.size 3 (CaE W W.heap.size) v l := by
  obtain ⟨a, len, cap, rfl⟩ := okWide_slice Tryz.underlying22 hv
  obtain ⟨fuel, hf⟩ := h
  obtain ⟨v', l, e, hl⟩ := slc_open (E := CaE W W.heap.size) Tryz.underlying22 cellsCausal (by decide) bytesCausal (by decide) hf hw fun _ _ _ _ hy hwy => by
    obtain ⟨t, c, ve, vk, vc, e, ht, hc⟩ := ca_open hy hwy
    exact ⟨(t, c), ve, vk, vc, e, ht, hc⟩
  simp [Value.cells] at e
  subst e
  exact ⟨l, hl⟩
theorem okInt32s : Tryz.prog.readableRec 49 = true ∧ 49 < Tryz.prog.types.size := ⟨by kernel_rfl, of_decide_eq_true (by kernel_rfl)⟩
theorem bytesInt32 : Tryz.prog.bytesOf 21 = 4 := by kernel_rfl
theorem cellsInt32 : Tryz.prog.cellsOf 21 = 1 := by kernel_rfl
/-- A number of 32 bits. -/
def I3E (n : Int) (cs : List Value) : Prop := cs = [.int .i32 n] ∧ -2147483648 ≤ n ∧ n ≤ 2147483647
theorem i32s_arg {base : Nat} {v : Value} {d : DataW H} {p : List MemPlace} (hv : Value.okWide Tryz.prog W .any base 49 v) (h : DataW.Trod enc Tryz.prog W 0 (fun _ => true) true 49 v d p) (hw : Wt Tryz.prog 49 d) :
    ∃ l : List Int, SlP W W.heap.size 1 I3E v l := by
  obtain ⟨a, len, cap, rfl⟩ := okWide_slice Tryz.underlying49 hv
  obtain ⟨fuel, hf⟩ := h
  obtain ⟨v', l, e, hl⟩ := slc_open (E := I3E) Tryz.underlying49 cellsInt32 (by decide) bytesInt32 (by decide) hf hw fun _ _ _ _ hy hwy => by
    obtain ⟨a, e0, _, w0⟩ := DataW.trod_int Tryz.underlying21 hy
    exact ⟨a, e0, bounds_i32 w0⟩
  simp [Value.cells] at e
  subst e
  exact ⟨l, hl⟩
theorem okStr3 : Tryz.prog.readableRec 59 = true ∧ 59 < Tryz.prog.types.size := ⟨by kernel_rfl, of_decide_eq_true (by kernel_rfl)⟩
theorem cellsStr3 : Tryz.prog.cellsOf 59 = 3 := by kernel_rfl
theorem str3_arg {base : Nat} {v : Value} {d : DataW H} {p : List MemPlace} (hv : Value.okWide Tryz.prog W .any base 59 v) (h : DataW.Trod enc Tryz.prog W 0 (fun _ => true) true 59 v d p) (hw : Wt Tryz.prog 59 d) :
    ∃ a b c : ByteArray, v = .agg #[.string a, .string b, .string c] ∧ a.size ≤ Big ∧ b.size ≤ Big ∧ c.size ≤ Big := by
  obtain ⟨cs, rfl, hs⟩ := okWide_array Tryz.underlying59 hv
  obtain ⟨fuel, hf⟩ := h
  obtain ⟨xs, n, rfl, he, hl, hx, hf⟩ := DataW.trod_array Tryz.underlying59 hf
  rw [cellsStr3] at hl
  obtain ⟨cs⟩ := cs
  simp [Value.cells] at hl hf
  match cs, hl with
  | [c0, c1, c2], _ =>
    match xs, hx with
    | [y0, y1, y2], _ =>
      have hp := Wt.arr Tryz.underlying59 (show Wt Tryz.prog 59 (.agg [y0.1, y1.1, y2.1]) from by have := (Prod.mk.inj he).1; rw [this] at hw; exact hw)
      have f0 := hf 0 (by omega)
      have f1 := hf 1 (by omega)
      have f2 := hf 2 (by omega)
      rw [cellsOne.1] at f0 f1 f2
      obtain ⟨a, e0, ha⟩ := str_open (show DataW.trod enc Tryz.prog W 0 (fun _ => true) true n 9 [c0] = some y0 from f0) (hp _ (by simp))
      obtain ⟨b, e1, hb⟩ := str_open (show DataW.trod enc Tryz.prog W 0 (fun _ => true) true n 9 [c1] = some y1 from f1) (hp _ (by simp))
      obtain ⟨c, e2, hc⟩ := str_open (show DataW.trod enc Tryz.prog W 0 (fun _ => true) true n 9 [c2] = some y2 from f2) (hp _ (by simp))
      simp at e0 e1 e2
      subst e0; subst e1; subst e2
      exact ⟨a, b, c, rfl, ha, hb, hc⟩
theorem okStr2 : Tryz.prog.readableRec 74 = true ∧ 74 < Tryz.prog.types.size := ⟨by kernel_rfl, of_decide_eq_true (by kernel_rfl)⟩
theorem cellsStr2 : Tryz.prog.cellsOf 74 = 2 := by kernel_rfl
theorem str2_arg {base : Nat} {v : Value} {d : DataW H} {p : List MemPlace} (hv : Value.okWide Tryz.prog W .any base 74 v) (h : DataW.Trod enc Tryz.prog W 0 (fun _ => true) true 74 v d p) (hw : Wt Tryz.prog 74 d) :
    ∃ a b : ByteArray, v = .agg #[.string a, .string b] ∧ a.size ≤ Big ∧ b.size ≤ Big := by
  obtain ⟨cs, rfl, hs⟩ := okWide_array Tryz.underlying74 hv
  obtain ⟨fuel, hf⟩ := h
  obtain ⟨xs, n, rfl, he, hl, hx, hf⟩ := DataW.trod_array Tryz.underlying74 hf
  rw [cellsStr2] at hl
  obtain ⟨cs⟩ := cs
  simp [Value.cells] at hl hf
  match cs, hl with
  | [c0, c1], _ =>
    match xs, hx with
    | [y0, y1], _ =>
      have hp := Wt.arr Tryz.underlying74 (show Wt Tryz.prog 74 (.agg [y0.1, y1.1]) from by have := (Prod.mk.inj he).1; rw [this] at hw; exact hw)
      have f0 := hf 0 (by omega)
      have f1 := hf 1 (by omega)
      rw [cellsOne.1] at f0 f1
      obtain ⟨a, e0, ha⟩ := str_open (show DataW.trod enc Tryz.prog W 0 (fun _ => true) true n 9 [c0] = some y0 from f0) (hp _ (by simp))
      obtain ⟨b, e1, hb⟩ := str_open (show DataW.trod enc Tryz.prog W 0 (fun _ => true) true n 9 [c1] = some y1 from f1) (hp _ (by simp))
      simp at e0 e1
      subst e0; subst e1
      exact ⟨a, b, rfl, ha, hb⟩
theorem okDot3 : Tryz.prog.readableRec 60 = true ∧ 60 < Tryz.prog.types.size := ⟨by kernel_rfl, of_decide_eq_true (by kernel_rfl)⟩
theorem cellsDot3 : Tryz.prog.cellsOf 60 = 6 := by kernel_rfl
theorem dot3_arg {base : Nat} {v : Value} {d : DataW H} {p : List MemPlace} (hv : Value.okWide Tryz.prog W .any base 60 v) (h : DataW.Trod enc Tryz.prog W 0 (fun _ => true) true 60 v d p) :
    ∃ a b c : Dt, v = .agg #[.int .i64 a.dc, .int .i64 a.n, .int .i64 b.dc, .int .i64 b.n, .int .i64 c.dc, .int .i64 c.n] ∧ a.Ok ∧ b.Ok ∧ c.Ok := by
  obtain ⟨cs, rfl, hs⟩ := okWide_array Tryz.underlying60 hv
  obtain ⟨fuel, hf⟩ := h
  obtain ⟨xs, n, rfl, _, hl, hx, hf⟩ := DataW.trod_array Tryz.underlying60 hf
  rw [cellsDot3] at hl
  obtain ⟨cs⟩ := cs
  simp [Value.cells] at hl hf
  match cs, hl with
  | [c0, c1, c2, c3, c4, c5], _ =>
    match xs, hx with
    | [y0, y1, y2], _ =>
      have f0 := hf 0 (by omega)
      have f1 := hf 1 (by omega)
      have f2 := hf 2 (by omega)
      rw [cellsDot] at f0 f1 f2
      obtain ⟨a, e0, ha⟩ := dot_open (show DataW.trod enc Tryz.prog W 0 (fun _ => true) true n 54 [c0, c1] = some y0 from f0)
      obtain ⟨b, e1, hb⟩ := dot_open (show DataW.trod enc Tryz.prog W 0 (fun _ => true) true n 54 [c2, c3] = some y1 from f1)
      obtain ⟨c, e2, hc⟩ := dot_open (show DataW.trod enc Tryz.prog W 0 (fun _ => true) true n 54 [c4, c5] = some y2 from f2)
      simp at e0 e1 e2
      obtain ⟨rfl, rfl⟩ := e0
      obtain ⟨rfl, rfl⟩ := e1
      obtain ⟨rfl, rfl⟩ := e2
      exact ⟨a, b, c, rfl, ha, hb, hc⟩
end
end Go.Proofs.YtmphgnjodangcaaGreat
