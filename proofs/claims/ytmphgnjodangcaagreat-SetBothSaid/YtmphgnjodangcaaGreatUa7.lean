/- What the laws need, part 7: causal.Join. Condition: not too big. Plain law: trees and contexts joined, by leaves and dots. No condition. Plain law: joining is idempotent, commutative and associative, and has a least one. No condition. Plain law: what is known of a tree, joined to a change of it. No condition. Plain law: how big trees and contexts joined may be. No condition. Plain law: what is known, joined, as a lattice; many joined, in whatever order. No condition. Plain law: many changes of a tree, joined. No condition. ormap.Update. No condition but that there is not too much. context.Same. No condition but that there are not too many. causal.Same, causal.Leq, tributarylaw09.join. Condition: not too big. The plain law of OrmapBelow. A box that holds what is known: what a walk leaves behind a call whose result is laid into a box. No condition. tributarylaw09.small and right, at one and at two. No condition. Lists of what is known, in a block. No condition. -/
import Derived.Test.YtmphgnjodangcaaGreatUa6
namespace Go.Proofs.YtmphgnjodangcaaGreat
open Go.RowKit
set_option maxRecDepth 100000

theorem caR_right {t : Tr} {c : List Sp} (h : caR t c = true) : t.right 5 = true := by unfold caR at h; simp at h; exact h.1
theorem caR_apart {t : Tr} {c : List Sp} (h : caR t c = true) : apartB c = true := by rw [caR_r9] at h; unfold r9R at h; simp at h; exact h.2.1
theorem caR_ord {t : Tr} {c : List Sp} (h : caR t c = true) : t.Ord := right_ord t 5 (caR_right h)
theorem caR_dep {t : Tr} {c : List Sp} (h : caR t c = true) : t.dep ≤ 6 := by have := right_dep t 5 (caR_right h); omega
/-- The error's number, the tree and the context of two joined. -/
def jnE (a b : Tr) (ca cb : List Sp) : Int := if caR a ca && caR b cb then 0 else 1
def jnT (a b : Tr) (ca cb : List Sp) : Tr := if caR a ca && caR b cb then joinT 6 ca cb a b else .mk [] []
def jnC (a b : Tr) (ca cb : List Sp) : List Sp := if caR a ca && caR b cb then ctxBy ca cb 0 else []
set_option maxHeartbeats 4000000 in
theorem cJoin_any (ca cb : List Sp) (a b : Tr) (va ka vb kb vca vcb : Value) (w : World) (ha : a.rd w w.heap.size va ka) (hb : b.rd w w.heap.size vb kb) (hca : SlP w w.heap.size 3 SpE vca ca) (hcb : SlP w w.heap.size 3 SpE vcb cb) (hza : a.sz ≤ 4000) (hzb : b.sz ≤ 4000) (hN1 : ca.length ≤ 20000) (hN2 : cb.length ≤ 20000) :
    Calls Tryz.prog 45 #[.agg #[va, ka, vca], .agg #[vb, kb, vcb]] w (RetCE w (jnT a b ca cb) (jnC a b ca cb) (jnE a b ca cb)) := by
  have HA := hid ha
  have HB := hid hb
  have HCA : Hid (∀ w', Below w.heap.size w w' → SlP w' w'.heap.size 3 SpE vca ca) := fun w' hb => hca.imp hb hb.size fun _ _ _ h => h
  have HCB : Hid (∀ w', Below w.heap.size w w' → SlP w' w'.heap.size 3 SpE vcb cb) := fun w' hb => hcb.imp hb hb.size fun _ _ _ h => h
  obtain ⟨A1, n1, A2, n2, rfl, rfl⟩ := rd_shape ha
  obtain ⟨A3, n3, A4, n4, rfl, rfl⟩ := rd_shape hb
  obtain ⟨A5, n5, rfl, _⟩ := hca
  obtain ⟨A6, n6, rfl, _⟩ := hcb
  have HX : Hid (∀ W, Below (w.heap.size + 3) (((w.alloc (.cells #[.slice A1 a.es.length n1, .slice A2 a.ks.length n2, .slice A5 ca.length n5] 31)).alloc (.cells #[.slice A3 b.es.length n3, .slice A4 b.ks.length n4, .slice A6 cb.length n6] 31)).alloc (.cells #[.slice none 0 0, .slice none 0 0, .slice none 0 0] 31)) W → Below w.heap.size w W ∧ W.heap[w.heap.size + 2]? = some (.cells #[.slice none 0 0, .slice none 0 0, .slice none 0 0] 31 (0, 0)) ∧ w.heap.size + 3 ≤ W.heap.size ∧ (W.cell? ⟨w.heap.size, 0, none⟩ = some (.slice A1 a.es.length n1) ∧ W.cell? ⟨w.heap.size, 1, none⟩ = some (.slice A2 a.ks.length n2) ∧ W.cell? ⟨w.heap.size, 2, none⟩ = some (.slice A5 ca.length n5) ∧ W.cell? ⟨w.heap.size + 1, 0, none⟩ = some (.slice A3 b.es.length n3) ∧ W.cell? ⟨w.heap.size + 1, 1, none⟩ = some (.slice A4 b.ks.length n4) ∧ W.cell? ⟨w.heap.size + 1, 2, none⟩ = some (.slice A6 cb.length n6))) := fun W hW => by
    have g0 : W.heap[w.heap.size]? = some (.cells #[.slice A1 a.es.length n1, .slice A2 a.ks.length n2, .slice A5 ca.length n5] 31 (0, 0)) := (hW.block _ (by omega)).trans ((heap_old (by simp <;> omega)).trans ((heap_old (by simp)).trans (heap_new rfl)))
    have g1 : W.heap[w.heap.size + 1]? = some (.cells #[.slice A3 b.es.length n3, .slice A4 b.ks.length n4, .slice A6 cb.length n6] 31 (0, 0)) := (hW.block _ (by omega)).trans ((heap_old (by simp)).trans (heap_new (by simp)))
    have g2 : W.heap[w.heap.size + 2]? = some (.cells #[.slice none 0 0, .slice none 0 0, .slice none 0 0] 31 (0, 0)) := (hW.block _ (by omega)).trans (heap_new (by simp))
    exact ⟨((((Below.refl _ w).alloc (Nat.le_refl _) _).alloc (by simp) _).alloc (by simp; omega) _).trans (hW.mono (by omega)), g2, by have := hW.size; simpa using this, cell_cells (i := 0) g0, cell_cells (i := 1) g0, cell_cells (i := 2) g0, cell_cells (i := 0) g1, cell_cells (i := 1) g1, cell_cells (i := 2) g1⟩
  clear ha hb
  go_enter Tryz.func45, Tryz.ntmps45
  cases hc1 : caR a ca
  · have HR1 := hid hc1
    have HR2 : Hid (caR b cb = caR b cb) := rfl
    have HE : Hid (jnE a b ca cb = 1) := by unfold Hid jnE; rw [hc1]; rfl
    have HTT : Hid (jnT a b ca cb = .mk [] []) := by unfold Hid jnT; rw [hc1]; rfl
    have HCC : Hid (jnC a b ca cb = []) := by unfold Hid jnC; rw [hc1]; rfl
    clear hc1
    have hB0 := (HX.out _ (Below.refl _ _)).1
    go_wp2_with fail
    refine (caright_any a ca _ _ _ _ (rd_below hB0 hB0.size _ _ _ HA.out) (HCA.out _ hB0) hza hN1).mono ?_
    rw [HR1.out]
    rintro e w1 ⟨rfl, hb1⟩
    have hbq1 := hid (hb1.mono (show w.heap.size + 3 ≤ _ by simp))
    clear hb1 hB0
    obtain ⟨hB1, hG, hsq, q0, q1, q2, q3, q4, q5⟩ := HX.out w1 hbq1.out
    have HG := hid hG
    have k0 : (w1).cell? ⟨w.heap.size + 2, 0, none⟩ = some (.slice none 0 0) := cell_cells (i := 0) HG.out
    have k1 : (w1).cell? ⟨w.heap.size + 2, 1, none⟩ = some (.slice none 0 0) := cell_cells (i := 1) HG.out
    have k2 : (w1).cell? ⟨w.heap.size + 2, 2, none⟩ = some (.slice none 0 0) := cell_cells (i := 2) HG.out
    have z0 := cells_frz (i := 0) HG.out
    have z1 := cells_frz (i := 1) HG.out
    have z2 := cells_frz (i := 2) HG.out
    clear hG
    go_wp2_with fail
    obtain ⟨r0, r1, r2, hK, hS⟩ := box3 HG.out (.slice none 0 0) (.slice none 0 0) (.slice none 0 0)
    have hBW := ((hB1.setCell (p := ⟨w.heap.size + 2, 0, none⟩) (by simp) (.slice none 0 0)).setCell (p := ⟨w.heap.size + 2, 1, none⟩) (by simp) (.slice none 0 0)).setCell (p := ⟨w.heap.size + 2, 2, none⟩) (by simp) (.slice none 0 0)
    refine bodyPost_ret (v := .tuple #[.agg #[.slice none 0 0, .slice none 0 0, .slice none 0 0], .int .i64 1]) (by simp [results, Tryz.results45, go_sem, r0, r1, r2]) rfl ⟨_, _, _, by rw [HE.out], ?_, ?_, hBW⟩
    · rw [HTT.out]; exact rda_nil _ _
    · rw [HCC.out]; exact SlA.nil
  cases hc2 : caR b cb
  · have HR1 := hid hc1
    have HR2 := hid hc2
    have HE : Hid (jnE a b ca cb = 1) := by unfold Hid jnE; rw [hc1, hc2]; rfl
    have HTT : Hid (jnT a b ca cb = .mk [] []) := by unfold Hid jnT; rw [hc1, hc2]; rfl
    have HCC : Hid (jnC a b ca cb = []) := by unfold Hid jnC; rw [hc1, hc2]; rfl
    clear hc1 hc2
    have hB0 := (HX.out _ (Below.refl _ _)).1
    go_wp2_with fail
    refine (caright_any a ca _ _ _ _ (rd_below hB0 hB0.size _ _ _ HA.out) (HCA.out _ hB0) hza hN1).mono ?_
    rw [HR1.out]
    rintro e w1 ⟨rfl, hb1⟩
    have hbq1 := hid (hb1.mono (show w.heap.size + 3 ≤ _ by simp))
    clear hb1 hB0
    obtain ⟨hB1, hG, hsq, q0, q1, q2, q3, q4, q5⟩ := HX.out w1 hbq1.out
    have HG := hid hG
    have k0 : (w1).cell? ⟨w.heap.size + 2, 0, none⟩ = some (.slice none 0 0) := cell_cells (i := 0) HG.out
    have k1 : (w1).cell? ⟨w.heap.size + 2, 1, none⟩ = some (.slice none 0 0) := cell_cells (i := 1) HG.out
    have k2 : (w1).cell? ⟨w.heap.size + 2, 2, none⟩ = some (.slice none 0 0) := cell_cells (i := 2) HG.out
    have z0 := cells_frz (i := 0) HG.out
    have z1 := cells_frz (i := 1) HG.out
    have z2 := cells_frz (i := 2) HG.out
    clear hG
    go_wp2_with fail
    refine (caright_any b cb _ _ _ w1 (rd_below hB1 hB1.size _ _ _ HB.out) (HCB.out _ hB1) hzb hN2).mono ?_
    rw [HR2.out]
    rintro e w2 ⟨rfl, hb2⟩
    have hbq2 := hid (hbq1.out.trans (hb2.mono hsq))
    clear hb2 hB1 k0 k1 k2 z0 z1 z2 q0 q1 q2 q3 q4 q5 hsq HG
    obtain ⟨hB1, hG, hsq, q0, q1, q2, q3, q4, q5⟩ := HX.out w2 hbq2.out
    have HG := hid hG
    have k0 : (w2).cell? ⟨w.heap.size + 2, 0, none⟩ = some (.slice none 0 0) := cell_cells (i := 0) HG.out
    have k1 : (w2).cell? ⟨w.heap.size + 2, 1, none⟩ = some (.slice none 0 0) := cell_cells (i := 1) HG.out
    have k2 : (w2).cell? ⟨w.heap.size + 2, 2, none⟩ = some (.slice none 0 0) := cell_cells (i := 2) HG.out
    have z0 := cells_frz (i := 0) HG.out
    have z1 := cells_frz (i := 1) HG.out
    have z2 := cells_frz (i := 2) HG.out
    clear hG
    go_wp2_with fail
    obtain ⟨r0, r1, r2, hK, hS⟩ := box3 HG.out (.slice none 0 0) (.slice none 0 0) (.slice none 0 0)
    have hBW := ((hB1.setCell (p := ⟨w.heap.size + 2, 0, none⟩) (by simp) (.slice none 0 0)).setCell (p := ⟨w.heap.size + 2, 1, none⟩) (by simp) (.slice none 0 0)).setCell (p := ⟨w.heap.size + 2, 2, none⟩) (by simp) (.slice none 0 0)
    refine bodyPost_ret (v := .tuple #[.agg #[.slice none 0 0, .slice none 0 0, .slice none 0 0], .int .i64 1]) (by simp [results, Tryz.results45, go_sem, r0, r1, r2]) rfl ⟨_, _, _, by rw [HE.out], ?_, ?_, hBW⟩
    · rw [HTT.out]; exact rda_nil _ _
    · rw [HCC.out]; exact SlA.nil
  · have HR1 := hid hc1
    have HR2 := hid hc2
    have HE : Hid (jnE a b ca cb = 0) := by unfold Hid jnE; rw [hc1, hc2]; rfl
    have HTT : Hid (jnT a b ca cb = joinT 6 ca cb a b) := by unfold Hid jnT; rw [hc1, hc2]; rfl
    have HCC : Hid (jnC a b ca cb = ctxBy ca cb 0) := by unfold Hid jnC; rw [hc1, hc2]; rfl
    have HOA := hid (caR_ord hc1)
    have HOB := hid (caR_ord hc2)
    have HDA := hid (caR_dep hc1)
    have HDB := hid (caR_dep hc2)
    have HPA := hid (caR_apart hc1)
    have HPB := hid (caR_apart hc2)
    clear hc1 hc2
    have hB0 := (HX.out _ (Below.refl _ _)).1
    go_wp2_with fail
    refine (caright_any a ca _ _ _ _ (rd_below hB0 hB0.size _ _ _ HA.out) (HCA.out _ hB0) hza hN1).mono ?_
    rw [HR1.out]
    rintro e w1 ⟨rfl, hb1⟩
    have hbq1 := hid (hb1.mono (show w.heap.size + 3 ≤ _ by simp))
    clear hb1 hB0
    obtain ⟨hB1, hG, hsq, q0, q1, q2, q3, q4, q5⟩ := HX.out w1 hbq1.out
    have HG := hid hG
    have k0 : (w1).cell? ⟨w.heap.size + 2, 0, none⟩ = some (.slice none 0 0) := cell_cells (i := 0) HG.out
    have k1 : (w1).cell? ⟨w.heap.size + 2, 1, none⟩ = some (.slice none 0 0) := cell_cells (i := 1) HG.out
    have k2 : (w1).cell? ⟨w.heap.size + 2, 2, none⟩ = some (.slice none 0 0) := cell_cells (i := 2) HG.out
    have z0 := cells_frz (i := 0) HG.out
    have z1 := cells_frz (i := 1) HG.out
    have z2 := cells_frz (i := 2) HG.out
    clear hG
    go_wp2_with fail
    refine (caright_any b cb _ _ _ w1 (rd_below hB1 hB1.size _ _ _ HB.out) (HCB.out _ hB1) hzb hN2).mono ?_
    rw [HR2.out]
    rintro e w2 ⟨rfl, hb2⟩
    have hbq2 := hid (hbq1.out.trans (hb2.mono hsq))
    clear hb2 hB1 k0 k1 k2 z0 z1 z2 q0 q1 q2 q3 q4 q5 hsq HG
    obtain ⟨hB1, hG, hsq, q0, q1, q2, q3, q4, q5⟩ := HX.out w2 hbq2.out
    have HG := hid hG
    have k0 : (w2).cell? ⟨w.heap.size + 2, 0, none⟩ = some (.slice none 0 0) := cell_cells (i := 0) HG.out
    have k1 : (w2).cell? ⟨w.heap.size + 2, 1, none⟩ = some (.slice none 0 0) := cell_cells (i := 1) HG.out
    have k2 : (w2).cell? ⟨w.heap.size + 2, 2, none⟩ = some (.slice none 0 0) := cell_cells (i := 2) HG.out
    have z0 := cells_frz (i := 0) HG.out
    have z1 := cells_frz (i := 1) HG.out
    have z2 := cells_frz (i := 2) HG.out
    clear hG
    go_wp2_with fail
    refine (cjoin_any ca cb 6 a b _ _ _ _ _ _ w2 (rd_below hB1 hB1.size _ _ _ HA.out) (rd_below hB1 hB1.size _ _ _ HB.out) (HCA.out _ hB1) (HCB.out _ hB1) HOA.out HOB.out HDA.out HDB.out (by omega) (by omega) HPA.out HPB.out hN1 hN2).mono ?_
    rintro e w5 ⟨ve, vk, vc, rfl, hrd5, hsl5, hb5⟩
    obtain ⟨A7, n7, A8, n8, rfl, rfl⟩ := rda_shape hrd5
    have HS5 := hid hsl5
    obtain ⟨A9, n9, hv9, _⟩ := hsl5
    subst hv9
    have HR5 := hid hrd5
    have hs25 := hb5.size
    have hs2 := hsq
    have hbq5 := hid (hbq2.out.trans (hb5.mono hsq))
    clear hrd5 hb5 hB1 k0 k1 k2 z0 z1 z2 q0 q1 q2 q3 q4 q5 hsq HG
    obtain ⟨hB1, hG, hsq, q0, q1, q2, q3, q4, q5⟩ := HX.out w5 hbq5.out
    have HG := hid hG
    have k0 : (w5).cell? ⟨w.heap.size + 2, 0, none⟩ = some (.slice none 0 0) := cell_cells (i := 0) HG.out
    have k1 : (w5).cell? ⟨w.heap.size + 2, 1, none⟩ = some (.slice none 0 0) := cell_cells (i := 1) HG.out
    have k2 : (w5).cell? ⟨w.heap.size + 2, 2, none⟩ = some (.slice none 0 0) := cell_cells (i := 2) HG.out
    have z0 := cells_frz (i := 0) HG.out
    have z1 := cells_frz (i := 1) HG.out
    have z2 := cells_frz (i := 2) HG.out
    clear hG
    go_wp2_with fail
    obtain ⟨r0, r1, r2, hK, hS⟩ := box3 HG.out (.slice A7 (joinT 6 ca cb a b).es.length n7) (.slice A8 (joinT 6 ca cb a b).ks.length n8) (.slice A9 (ctxBy ca cb 0).length n9)
    have hBW : Below w.heap.size w (((w5.setCell ⟨w.heap.size + 2, 0, none⟩ (.slice A7 (joinT 6 ca cb a b).es.length n7)).setCell ⟨w.heap.size + 2, 1, none⟩ (.slice A8 (joinT 6 ca cb a b).ks.length n8)).setCell ⟨w.heap.size + 2, 2, none⟩ (.slice A9 (ctxBy ca cb 0).length n9)) := ((hB1.setCell (by simp) _).setCell (by simp) _).setCell (by simp) _
    clear k0 k1 k2 z0 z1 z2
    generalize (((w5.setCell ⟨w.heap.size + 2, 0, none⟩ (.slice A7 (joinT 6 ca cb a b).es.length n7)).setCell ⟨w.heap.size + 2, 1, none⟩ (.slice A8 (joinT 6 ca cb a b).ks.length n8)).setCell ⟨w.heap.size + 2, 2, none⟩ (.slice A9 (ctxBy ca cb 0).length n9)) = W at *
    refine bodyPost_ret (v := .tuple #[.agg #[.slice A7 (joinT 6 ca cb a b).es.length n7, .slice A8 (joinT 6 ca cb a b).ks.length n8, .slice A9 (ctxBy ca cb 0).length n9], .int .i64 0]) (by simp [results, Tryz.results45, go_sem, r0, r1, r2]) rfl ⟨_, _, _, by rw [HE.out], ?_, ?_, hBW⟩
    · rw [HTT.out]
      exact rda_up (fun b hb => hK b (by have := hb.1; omega)) (fun b hb => ⟨by have := hb.1; omega, by have := hb.2; omega⟩) _ _ _ HR5.out
    · rw [HCC.out]
      exact HS5.out.up (fun b hb => hK b (by have := hb.1; omega)) (fun b hb => ⟨by have := hb.1; omega, by have := hb.2; omega⟩) (fun _ _ _ h => h)
end Go.Proofs.YtmphgnjodangcaaGreat

namespace Go.Proofs.YtmphgnjodangcaaGreat
open Go.RowKit
set_option maxRecDepth 100000

/-! contexts by their dots -/
theorem part_ctxBy (a b : List Sp) (how : Int) {i : Nat} (hi : i < 4) : partL (ctxBy a b how) i = byL (partL a i) (partL b i) how := by
  rw [ctxBy_whole, partL_whole, if_pos hi]
theorem apart_ok {c : List Sp} (h : apartB c = true) {i : Nat} (hi : i < 4) : ∀ r ∈ partL c i, runOk r := runs_ok _ none (apart_part h hi)
theorem apart_by {a b : List Sp} (ha : apartB a = true) (hb : apartB b = true) (how : Int) : apartB (ctxBy a b how) = true := by
  rw [ctxBy_whole]
  exact apart_whole fun i hi => (byL_right how (apart_ok ha hi) (apart_ok hb hi)).1
theorem hasC_by {a b : List Sp} (ha : apartB a = true) (hb : apartB b = true) (how : Int) {d : Dt} (hd : d.right = true) : hasC (ctxBy a b how) d = inn how (hasC a d) (hasC b d) := by
  have h1 := (right_bd hd).1
  obtain ⟨i, hi⟩ : ∃ i : Nat, (i : Int) = d.dc := ⟨d.dc.toNat, by omega⟩
  have h4 : i < 4 := by omega
  unfold hasC
  rw [hd, ← hi, part_ctxBy a b how h4, (byL_right how (apart_ok ha h4) (apart_ok hb h4)).2]
  simp
theorem hasC_right {c : List Sp} {d : Dt} (h : hasC c d = true) : d.right = true := by unfold hasC at h; rw [Bool.and_eq_true] at h; exact h.1
theorem hasC_union {a b : List Sp} (ha : apartB a = true) (hb : apartB b = true) (d : Dt) : hasC (ctxBy a b 0) d = (hasC a d || hasC b d) := by
  cases hd : d.right
  · unfold hasC; simp [hd]
  · rw [hasC_by ha hb 0 hd]; rfl
theorem hasC_minus {a b : List Sp} (ha : apartB a = true) (hb : apartB b = true) (d : Dt) : hasC (ctxBy a b 2) d = (hasC a d && !hasC b d) := by
  cases hd : d.right
  · unfold hasC; simp [hd]
  · rw [hasC_by ha hb 2 hd]; rfl
theorem hasL_bd {l : List (Int × Int)} (h : ∀ r ∈ l, runOk r) {n : Int} (hn : hasL l n = true) : 1 ≤ n ∧ n ≤ 1099511627776 := by
  unfold hasL at hn
  obtain ⟨r, hr, h1⟩ := List.any_eq_true.1 hn
  have := h r hr
  unfold runOk at this
  unfold inR at h1
  simp at h1
  omega
theorem dt_right {i : Nat} (hi : i < 4) {n : Int} (h : 1 ≤ n ∧ n ≤ 1099511627776) : (⟨i, n⟩ : Dt).right = true := by
  unfold Dt.right; simp; omega
theorem ctx_ext {a b : List Sp} (ha : apartB a = true) (hb : apartB b = true) (h : ∀ d, hasC a d = hasC b d) : a = b := by
  rw [← whole_part ha, ← whole_part hb]
  refine whole_eq fun i hi => runs_eq _ _ none none (apart_part ha hi) (apart_part hb hi) fun n => ?_
  by_cases hn : 1 ≤ n ∧ n ≤ 1099511627776
  · have := h ⟨i, n⟩
    unfold hasC at this
    rw [dt_right hi hn] at this
    simpa using this
  · have e1 : hasL (partL a i) n = false := by
      cases hc : hasL (partL a i) n
      · rfl
      · exact absurd (hasL_bd (apart_ok ha hi) hc) hn
    have e2 : hasL (partL b i) n = false := by
      cases hc : hasL (partL b i) n
      · rfl
      · exact absurd (hasL_bd (apart_ok hb hi) hc) hn
    rw [e1, e2]
theorem apart_nil : apartB [] = true := by kernel_rfl
theorem hasC_nil (d : Dt) : hasC [] d = false := by unfold hasC partL hasL; simp
theorem ctx_nil {c : List Sp} (hc : apartB c = true) : c = [] ↔ ∀ d, hasC c d = false := by
  constructor
  · rintro rfl; exact hasC_nil
  · intro h; exact ctx_ext hc apart_nil fun d => by rw [h, hasC_nil]
theorem cLeq_iff {a b : List Sp} (ha : apartB a = true) (hb : apartB b = true) : cLeq a b = true ↔ ∀ d, hasC a d = true → hasC b d = true := by
  unfold cLeq
  rw [ha, hb, Bool.true_and, Bool.true_and, decide_eq_true_eq, List.length_eq_zero_iff, ctx_nil (apart_by ha hb 2)]
  refine forall_congr' fun d => ?_
  rw [hasC_minus ha hb]
  cases hasC a d <;> cases hasC b d <;> simp

/-! right trees by their leaves -/
theorem ents_mk : ∀ (es : List En) (p : Option Dt), (es.Pairwise fun a b => a.dot.lt b.dot = true) → (∀ e ∈ es, okP p e.dot = true) → (∀ e ∈ es, e.right = true) → entsB p es = true
  | [], _, _, _, _ => by unfold entsB; rfl
  | e :: es, p, h, h1, h2 => by
    obtain ⟨h3, h4⟩ := List.pairwise_cons.1 h
    rw [entsB_cons, h2 e (by simp), h1 e (by simp), ents_mk es (some e.dot) h4 (fun a ha => h3 a ha) fun a ha => h2 a (by simp [ha])]; rfl
theorem kids_mk (d : Int) : ∀ (ks : List Kd) (p : Option ByteArray), (ks.Pairwise fun a b => ltS a.1 b.1 = true) → (∀ x ∈ ks, okK p x.1 = true) → (∀ k t, (k, t) ∈ ks → keyB k = true ∧ t.empty = false ∧ t.right (d - 1) = true) → Tr.rightL p ks d = true
  | [], p, _, _, _ => by cases p <;> rw [Tr.rightL]
  | (k, t) :: ks, p, h, h1, h2 => by
    obtain ⟨h3, h4⟩ := List.pairwise_cons.1 h
    obtain ⟨g1, g2, g3⟩ := h2 k t (by simp)
    rw [rightL_cons, g1, g2, g3, h1 (k, t) (by simp), kids_mk d ks (some k) h4 (fun a ha => h3 a ha) fun k' t' hm => h2 k' t' (by simp [hm])]; rfl
/-- What a right tree's leaves are. -/
def LfR (n : Int) (x : Lf) : Prop := (x.1.length : Int) + 1 ≤ n ∧ (∀ k ∈ x.1, keyB k = true) ∧ x.2.right = true
theorem right_leaf : ∀ (t : Tr) (n : Int), t.right n = true → ∀ x ∈ t.lvs [], LfR n x := by
  intro t
  induction t using Tr.ind with
  | h es ks ih =>
  intro n h x hx
  rw [Tr.right, Bool.and_eq_true, Bool.and_eq_true] at h
  have hn := of_decide_eq_true h.1.1
  obtain ⟨p, e⟩ := x
  match p with
  | [] =>
    have he := mem_nil.1 hx
    refine ⟨by simpa using hn, by simp, ?_⟩
    have : ∀ (es : List En) (p : Option Dt), entsB p es = true → ∀ e ∈ es, e.right = true := by
      intro es
      induction es with
      | nil => intro _ _ _ h; cases h
      | cons y es ih =>
        intro p h e he
        rw [entsB_cons, Bool.and_eq_true, Bool.and_eq_true] at h
        rcases List.mem_cons.1 he with rfl | he
        · exact h.1.1
        · exact ih _ h.2 e he
    exact this es none h.1.2 e he
  | k :: qs =>
    obtain ⟨t, hm, hx⟩ := mem_cons'.1 hx
    have hk : ∀ (ks : List Kd) (p : Option ByteArray), Tr.rightL p ks n = true → ∀ k t, (k, t) ∈ ks → keyB k = true ∧ t.right (n - 1) = true := by
      intro ks
      induction ks with
      | nil => intro _ _ _ _ h; cases h
      | cons y ks ih =>
        obtain ⟨y1, y2⟩ := y
        intro p h k t he
        rw [rightL_cons, Bool.and_eq_true, Bool.and_eq_true, Bool.and_eq_true, Bool.and_eq_true] at h
        obtain ⟨⟨⟨⟨a1, a2⟩, a3⟩, a4⟩, a5⟩ := h
        rcases List.mem_cons.1 he with he | he
        · cases he; exact ⟨a1, a4⟩
        · exact ih _ a5 k t he
    obtain ⟨h1, h2⟩ := hk ks none h.2 k t hm
    obtain ⟨g1, g2, g3⟩ := ih k t hm _ h2 _ hx
    exact ⟨by simp at g1 ⊢; omega, fun q hq => by
      rcases List.mem_cons.1 hq with rfl | hq
      · exact h1
      · exact g2 q hq, g3⟩
theorem right_of_leaf : ∀ (t : Tr) (n : Int), 1 ≤ n → t.Ord → (∀ x ∈ t.lvs [], LfR n x) → t.right n = true := by
  intro t
  induction t using Tr.ind with
  | h es ks ih =>
  intro n hn ho hl
  obtain ⟨h1, h2, h3⟩ := ord_iff.1 ho
  rw [Tr.right, Bool.and_eq_true, Bool.and_eq_true]
  refine ⟨⟨by simpa using hn, ents_mk es none h1 (fun _ _ => rfl) fun e he => (hl ([], e) (mem_nil.2 he)).2.2⟩, kids_mk n ks none h2 (fun _ _ => rfl) fun k t hm => ?_⟩
  obtain ⟨g1, g2, g3⟩ := h3 k t hm
  have hsub : ∀ x ∈ t.lvs [], LfR (n - 1) x ∧ keyB k = true := by
    rintro ⟨qs, e⟩ hx
    obtain ⟨f1, f2, f3⟩ := hl (k :: qs, e) (mem_cons'.2 ⟨t, hm, hx⟩)
    exact ⟨⟨by simp at f1 ⊢; omega, fun q hq => f2 q (by simp [hq]), f3⟩, f2 k (by simp)⟩
  obtain ⟨x, hx⟩ := ord_leaf t g3 g2
  have hd := (hsub x hx).1.1
  exact ⟨(hsub x hx).2, g2, ih k t hm (n - 1) (by omega) g3 fun x hx => (hsub x hx).1⟩
theorem right_iff {t : Tr} (h : t.Ord) : t.right 5 = true ↔ ∀ x ∈ t.lvs [], LfR 5 x := ⟨right_leaf t 5, right_of_leaf t 5 (by omega) h⟩

/-! the dots of a tree -/
theorem mem_dotsL {ks : List Kd} {d : Dt} : d ∈ Tr.dotsL ks ↔ ∃ k t, (k, t) ∈ ks ∧ d ∈ t.dots := by
  induction ks with
  | nil => simp [Tr.dotsL]
  | cons y ks ih =>
    obtain ⟨k, t⟩ := y
    rw [Tr.dotsL, List.mem_append, ih]
    constructor
    · rintro (h | ⟨k', t', hm, h⟩)
      · exact ⟨k, t, by simp, h⟩
      · exact ⟨k', t', by simp [hm], h⟩
    · rintro ⟨k', t', hm, h⟩
      rcases List.mem_cons.1 hm with e | hm
      · cases e; exact .inl h
      · exact .inr ⟨k', t', hm, h⟩
theorem mem_dots (t : Tr) : ∀ d, d ∈ t.dots ↔ ∃ p e, ((p, e) : Lf) ∈ t.lvs [] ∧ e.dot = d := by
  induction t using Tr.ind with
  | h es ks ih =>
  intro d
  rw [Tr.dots, List.mem_append, List.mem_map, mem_dotsL]
  constructor
  · rintro (⟨e, he, rfl⟩ | ⟨k, t, hm, hd⟩)
    · exact ⟨[], e, mem_nil.2 he, rfl⟩
    · obtain ⟨p, e, hp, rfl⟩ := (ih k t hm d).1 hd
      exact ⟨k :: p, e, mem_cons'.2 ⟨t, hm, hp⟩, rfl⟩
  · rintro ⟨p, e, hx, rfl⟩
    match p with
    | [] => exact .inl ⟨e, mem_nil.1 hx, rfl⟩
    | k :: qs =>
      obtain ⟨t, hm, hx⟩ := mem_cons'.1 hx
      exact .inr ⟨k, t, hm, (ih k t hm _).2 ⟨qs, e, hx, rfl⟩⟩
theorem en_dot_right {e : En} (h : e.right = true) : e.dot.right = true := by
  unfold En.right at h; simp at h; exact h.1
theorem dots_right {t : Tr} (h : t.right 5 = true) : ∀ d ∈ t.dots, d.right = true := fun d hd => by
  obtain ⟨p, e, hx, rfl⟩ := (mem_dots t d).1 hd
  exact en_dot_right (right_leaf t 5 h _ hx).2.2
theorem hasC_dots {t : Tr} (h : t.right 5 = true) {d : Dt} : hasC (ctxOf t.dots) d = true ↔ d ∈ t.dots := by
  constructor
  · intro hc; rw [hasC_ctxOf (dots_right h) (hasC_right hc)] at hc; simpa using hc
  · intro hm; rw [hasC_ctxOf (dots_right h) (dots_right h d hm)]; simpa using hm

/-! what is known, right -/
structure CaOk (t : Tr) (c : List Sp) : Prop where
  ord : t.Ord
  leaf : ∀ x ∈ t.lvs [], LfR 5 x
  ap : apartB c = true
  has : ∀ x ∈ t.lvs [], hasC c x.2.dot = true
theorem caR_iff {t : Tr} {c : List Sp} : caR t c = true ↔ CaOk t c := by
  unfold caR
  rw [Bool.and_eq_true]
  constructor
  · rintro ⟨h1, h2⟩
    have hc : apartB c = true := by unfold cLeq at h2; simp only [Bool.and_eq_true] at h2; exact h2.2.1
    refine ⟨right_ord t 5 h1, right_leaf t 5 h1, hc, fun x hx => ?_⟩
    have ha := apart_ctxOf (dots_right h1)
    exact (cLeq_iff ha hc).1 h2 _ ((hasC_dots h1).2 ((mem_dots t _).2 ⟨x.1, x.2, hx, rfl⟩))
  · rintro ⟨h1, h2, h3, h4⟩
    have hr := (right_iff h1).2 h2
    refine ⟨hr, (cLeq_iff (apart_ctxOf (dots_right hr)) h3).2 fun d hd => ?_⟩
    obtain ⟨p, e, hx, rfl⟩ := (mem_dots t d).1 ((hasC_dots hr).1 hd)
    exact h4 _ hx
theorem CaOk.dep {t : Tr} {c : List Sp} (h : CaOk t c) : t.dep ≤ 6 := caR_dep (caR_iff.2 h)
theorem CaOk.ext {s t : Tr} {c d : List Sp} (h : CaOk s c) (k : CaOk t d) (hl : ∀ p e, ((p, e) : Lf) ∈ s.lvs [] ↔ ((p, e) : Lf) ∈ t.lvs []) (hd : ∀ x, hasC c x = hasC d x) : s = t ∧ c = d :=
  ⟨ord_ext s t h.ord k.ord fun ⟨p, e⟩ => hl p e, ctx_ext h.ap k.ap hd⟩
abbrev jT (a b : Tr) (ca cb : List Sp) : Tr := joinT 6 ca cb a b
abbrev jC (ca cb : List Sp) : List Sp := ctxBy ca cb 0
theorem jT_mem {a b : Tr} {ca cb : List Sp} (ha : CaOk a ca) (hb : CaOk b cb) (p : List ByteArray) (e : En) : ((p, e) : Lf) ∈ (jT a b ca cb).lvs [] ↔ EntJ ca cb (fun x => ((p, x) : Lf) ∈ a.lvs []) (fun y => ((p, y) : Lf) ∈ b.lvs []) e :=
  (joinT_spec ca cb 6 a b ha.ord hb.ord ha.dep hb.dep).2 p e
theorem grtE_or (x y : En) : grtE x y = x ∨ grtE x y = y := by unfold grtE; split <;> simp
theorem EntJ.leaf {ca cb : List Sp} {a b : En → Prop} {e : En} (h : EntJ ca cb a b e) : a e ∨ b e := by
  rcases h with ⟨x, y, hx, hy, _, rfl⟩ | ⟨hx, _, _⟩ | ⟨hx, _, _⟩
  · rcases grtE_or x y with h | h <;> rw [h]
    · exact .inl hx
    · exact .inr hy
  · exact .inl hx
  · exact .inr hx
theorem jT_ok {a b : Tr} {ca cb : List Sp} (ha : CaOk a ca) (hb : CaOk b cb) : CaOk (jT a b ca cb) (jC ca cb) := by
  refine ⟨(joinT_spec ca cb 6 a b ha.ord hb.ord ha.dep hb.dep).1, fun x hx => ?_, apart_by ha.ap hb.ap 0, fun x hx => ?_⟩
  · obtain ⟨p, e⟩ := x
    rcases ((jT_mem ha hb p e).1 hx).leaf with h | h
    · exact ha.leaf _ h
    · exact hb.leaf _ h
  · obtain ⟨p, e⟩ := x
    rw [hasC_union ha.ap hb.ap]
    rcases ((jT_mem ha hb p e).1 hx).leaf with h | h
    · rw [ha.has _ h]; rfl
    · rw [hb.has _ h]; simp
theorem jn_ok {a b : Tr} {ca cb : List Sp} (ha : CaOk a ca) (hb : CaOk b cb) : jnE a b ca cb = 0 ∧ jnT a b ca cb = jT a b ca cb ∧ jnC a b ca cb = jC ca cb := by
  unfold jnE jnT jnC
  rw [caR_iff.2 ha, caR_iff.2 hb]
  exact ⟨rfl, rfl, rfl⟩
/-- A box of three cells written over, and a new one laid behind. -/
theorem box3a {w : World} {g : Nat} {x y z : Value} {e : TypeId} (hbx : w.heap[g]? = some (.cells #[x, y, z] e (0, 0))) (a b c : Value) (o : Obj) :
    ((((w.setCell ⟨g, 0, none⟩ a).setCell ⟨g, 1, none⟩ b).setCell ⟨g, 2, none⟩ c).alloc o).cell? ⟨g, 0, none⟩ = some a ∧ ((((w.setCell ⟨g, 0, none⟩ a).setCell ⟨g, 1, none⟩ b).setCell ⟨g, 2, none⟩ c).alloc o).cell? ⟨g, 1, none⟩ = some b ∧ ((((w.setCell ⟨g, 0, none⟩ a).setCell ⟨g, 1, none⟩ b).setCell ⟨g, 2, none⟩ c).alloc o).cell? ⟨g, 2, none⟩ = some c ∧
      (∀ k, k ≠ g → k < w.heap.size → ((((w.setCell ⟨g, 0, none⟩ a).setCell ⟨g, 1, none⟩ b).setCell ⟨g, 2, none⟩ c).alloc o).heap[k]? = w.heap[k]?) ∧ ((((w.setCell ⟨g, 0, none⟩ a).setCell ⟨g, 1, none⟩ b).setCell ⟨g, 2, none⟩ c).alloc o).heap.size = w.heap.size + 1 ∧
      ((((w.setCell ⟨g, 0, none⟩ a).setCell ⟨g, 1, none⟩ b).setCell ⟨g, 2, none⟩ c).alloc o).heap[g]? = some (.cells #[a, b, c] e (0, 0)) := by
  obtain ⟨r0, r1, r2, hK, hS⟩ := box3 hbx a b c
  have hg := lt_of_block hbx
  have hW := cells_set (i := 2) (cells_set (i := 1) (cells_set (i := 0) hbx a) b) c
  have hW' : ((((w.setCell ⟨g, 0, none⟩ a).setCell ⟨g, 1, none⟩ b).setCell ⟨g, 2, none⟩ c).alloc o).heap[g]? = some (.cells #[a, b, c] e (0, 0)) := (heap_old (by rw [hS]; exact hg)).trans (by simpa using hW)
  exact ⟨cell_cells (i := 0) hW', cell_cells (i := 1) hW', cell_cells (i := 2) hW', fun k hk hk' => (heap_old (by rw [hS]; exact hk')).trans (hK k hk), by rw [World.size_alloc, hS], hW'⟩
theorem below_box3 {B : Nat} {w0 w : World} {g : Nat} (h : Below B w0 w) (hg : B ≤ g) (hB : B ≤ w.heap.size) (a b c : Value) (o : Obj) : Below B w0 ((((w.setCell ⟨g, 0, none⟩ a).setCell ⟨g, 1, none⟩ b).setCell ⟨g, 2, none⟩ c).alloc o) :=
  (((h.setCell hg _).setCell hg _).setCell hg _).alloc (by simp [World.setCell]; exact hB) _
end Go.Proofs.YtmphgnjodangcaaGreat

namespace Go.Proofs.YtmphgnjodangcaaGreat
open Go.RowKit
set_option maxRecDepth 100000

theorem gtE_iff {y x : En} : gtE y x = true ↔ x.v < y.v ∨ (y.v = x.v ∧ ltS x.s y.s = true) := by unfold gtE; simp
theorem gtE_no {y x : En} : gtE y x = false ↔ y.v < x.v ∨ (y.v = x.v ∧ ltS x.s y.s = false) := by
  rw [← Bool.not_eq_true, gtE_iff]
  cases ltS x.s y.s <;> simp <;> omega
theorem gtE_tr {x y z : En} (h : gtE x y = true) (k : gtE y z = true) : gtE x z = true := by
  rw [gtE_iff] at *
  rcases h with h | ⟨h, h'⟩ <;> rcases k with k | ⟨k, k'⟩
  · exact .inl (by omega)
  · exact .inl (by omega)
  · exact .inl (by omega)
  · exact .inr ⟨by omega, ltS_trans k' h'⟩
theorem gtE_self (x : En) : gtE x x = false := by rw [gtE_no]; exact .inr ⟨rfl, ltS_irrefl _⟩
theorem gtE_tot {x y : En} (hd : x.dot = y.dot) (h : gtE x y = false) (k : gtE y x = false) : x = y := by
  rw [gtE_no] at *
  rcases h with h | ⟨h, h'⟩ <;> rcases k with k | ⟨k, k'⟩
  · omega
  · omega
  · omega
  · have := ltS_total h' k'
    obtain ⟨a, b, c, d⟩ := x
    obtain ⟨a', b', c', d'⟩ := y
    simp only [En.dot, Dt.mk.injEq] at hd
    simp only at this h
    obtain ⟨rfl, rfl⟩ := hd
    subst this; subst h; rfl
theorem grt_self (x : En) : grtE x x = x := by rw [grtE_gt, gtE_self]; rfl
theorem grt_comm {x y : En} (hd : x.dot = y.dot) : grtE x y = grtE y x := by
  rw [grtE_gt, grtE_gt]
  cases h1 : gtE y x <;> cases h2 : gtE x y <;> simp
  · exact gtE_tot hd h2 h1
  · have := gtE_tr h1 h2; rw [gtE_self] at this; cases this
theorem grt_assoc {x y z : En} (_ : x.dot = y.dot) (h2 : y.dot = z.dot) : grtE (grtE x y) z = grtE x (grtE y z) := by
  rw [grtE_gt x y, grtE_gt y z]
  cases a : gtE y x <;> cases b : gtE z y <;> simp only [if_true, if_false, Bool.false_eq_true]
  · rw [grtE_gt x z, grtE_gt x y, a]
    cases c : gtE z x
    · simp
    · simp
      -- z > x, not z > y, not y > x : then y ≥ z > x, so y > x
      exfalso
      cases d : gtE y z
      · have := gtE_tot h2 d b; subst this; rw [a] at c; cases c
      · have := gtE_tr d c; rw [a] at this; cases this
  · rw [grtE_gt y z, b, grtE_gt x y, a]; rfl
  · rw [grtE_gt y z, b, grtE_gt x z, gtE_tr b a]; rfl

/-- The entry of a dot at a place. -/
def stE (t : Tr) (p : List ByteArray) (d : Dt) : Option En := ((t.lvs []).find? fun x => decide (x.1 = p) && decide (x.2.dot = d)).map (·.2)
theorem stE_some {t : Tr} (h : t.Ord) {p : List ByteArray} {d : Dt} {e : En} : stE t p d = some e ↔ ((p, e) : Lf) ∈ t.lvs [] ∧ e.dot = d := by
  unfold stE
  constructor
  · intro hs
    obtain ⟨⟨q, f⟩, h1, h2⟩ := Option.map_eq_some_iff.1 hs
    have h3 := List.find?_some h1
    have h4 := List.mem_of_find?_eq_some h1
    simp at h2 h3
    obtain ⟨rfl, h3⟩ := h3
    subst h2
    exact ⟨h4, h3⟩
  · rintro ⟨hm, hd⟩
    cases hf : (t.lvs []).find? fun x => decide (x.1 = p) && decide (x.2.dot = d) with
    | none =>
      have := List.find?_eq_none.1 hf _ hm
      simp [hd] at this
    | some y =>
      have h3 := List.find?_some hf
      have h4 := List.mem_of_find?_eq_some hf
      simp at h3
      have := (ord_lvOk t h).one y h4 (p, e) hm h3.1 (h3.2.trans hd.symm)
      subst this; rfl
theorem stE_none {t : Tr} (h : t.Ord) {p : List ByteArray} {d : Dt} : stE t p d = none ↔ ∀ e, ((p, e) : Lf) ∈ t.lvs [] → e.dot ≠ d := by
  constructor
  · intro hs e hm hd
    rw [(stE_some h).2 ⟨hm, hd⟩] at hs; cases hs
  · intro hn
    cases hs : stE t p d with
    | none => rfl
    | some e => exact absurd ((stE_some h).1 hs).2 (hn e ((stE_some h).1 hs).1)
/-- An entry that may be there, of a dot that may be known, joined to another one. -/
def jnO (x : Option En) (k : Bool) (y : Option En) (l : Bool) : Option En :=
  match x, y with
  | some x, some y => some (grtE x y)
  | some x, none => if l then none else some x
  | none, some y => if k then none else some y
  | none, none => none
theorem EntJ_st {t s : Tr} {ca cb : List Sp} (ht : t.Ord) (hs : s.Ord) (hca : apartB ca = true) (hcb : apartB cb = true) (p : List ByteArray) (d : Dt) (e : En) :
    (EntJ ca cb (fun x => ((p, x) : Lf) ∈ t.lvs []) (fun y => ((p, y) : Lf) ∈ s.lvs []) e ∧ e.dot = d) ↔ jnO (stE t p d) (hasC ca d) (stE s p d) (hasC cb d) = some e := by
  unfold EntJ
  simp only [cHas_hasC hca, cHas_hasC hcb]
  cases h1 : stE t p d with
  | none =>
    have n1 := (stE_none ht).1 h1
    cases h2 : stE s p d with
    | none =>
      have n2 := (stE_none hs).1 h2
      constructor
      · rintro ⟨⟨x, y, hx, hy, hd, rfl⟩ | ⟨hx, _⟩ | ⟨hx, _⟩, hd'⟩
        · rw [grtE_dot hd] at hd'; exact absurd hd' (n1 x hx)
        · exact absurd hd' (n1 e hx)
        · exact absurd hd' (n2 e hx)
      · intro h; cases h
    | some y =>
      obtain ⟨hy, hyd⟩ := (stE_some hs).1 h2
      constructor
      · rintro ⟨⟨x, y, hx, hy, hd, rfl⟩ | ⟨hx, _⟩ | ⟨hx, hn, hh⟩, hd'⟩
        · rw [grtE_dot hd] at hd'; exact absurd hd' (n1 x hx)
        · exact absurd hd' (n1 e hx)
        · have := (stE_some hs).2 ⟨hx, hd'⟩
          rw [h2] at this
          cases this
          rw [hd'] at hh
          simp [jnO, hh]
      · intro h
        unfold jnO at h
        simp only at h
        split at h
        · cases h
        · rename_i hh
          cases h
          exact ⟨.inr (.inr ⟨hy, fun x hx hxd => n1 x hx (hxd.trans hyd), by rw [hyd]; simpa using hh⟩), hyd⟩
  | some x =>
    obtain ⟨hx, hxd⟩ := (stE_some ht).1 h1
    cases h2 : stE s p d with
    | none =>
      have n2 := (stE_none hs).1 h2
      constructor
      · rintro ⟨⟨x', y, hx', hy, hd, rfl⟩ | ⟨hx', hn, hh⟩ | ⟨hx', hn, hh⟩, hd'⟩
        · rw [grtE_dot hd] at hd'; exact absurd (hd.symm.trans hd') (n2 y hy)
        · have := (stE_some ht).2 ⟨hx', hd'⟩
          rw [h1] at this
          cases this
          rw [hd'] at hh
          simp [jnO, hh]
        · exact absurd hd' (n2 e hx')
      · intro h
        unfold jnO at h
        simp only at h
        split at h
        · cases h
        · rename_i hh
          cases h
          exact ⟨.inr (.inl ⟨hx, fun y hy hyd => n2 y hy (hyd.trans hxd), by rw [hxd]; simpa using hh⟩), hxd⟩
    | some y =>
      obtain ⟨hy, hyd⟩ := (stE_some hs).1 h2
      constructor
      · rintro ⟨⟨x', y', hx', hy', hd, rfl⟩ | ⟨hx', hn, hh⟩ | ⟨hx', hn, hh⟩, hd'⟩
        · rw [grtE_dot hd] at hd'
          have e1 := (stE_some ht).2 ⟨hx', hd'⟩
          have e2 := (stE_some hs).2 ⟨hy', hd.symm.trans hd'⟩
          rw [h1] at e1; rw [h2] at e2
          cases e1; cases e2
          rfl
        · exact absurd (hyd.trans hd'.symm) (hn y hy)
        · exact absurd (hxd.trans hd'.symm) (hn x hx)
      · intro h
        unfold jnO at h
        cases h
        exact ⟨.inl ⟨x, y, hx, hy, hxd.trans hyd.symm, rfl⟩, (grtE_dot (hxd.trans hyd.symm)).trans hxd⟩
theorem stE_join {a b : Tr} {ca cb : List Sp} (ha : CaOk a ca) (hb : CaOk b cb) (p : List ByteArray) (d : Dt) : stE (jT a b ca cb) p d = jnO (stE a p d) (hasC ca d) (stE b p d) (hasC cb d) := by
  refine Option.ext fun e => ?_
  rw [stE_some (jT_ok ha hb).ord, ← EntJ_st ha.ord hb.ord ha.ap hb.ap, jT_mem ha hb]
theorem stE_has {a : Tr} {ca : List Sp} (ha : CaOk a ca) {p : List ByteArray} {d : Dt} {e : En} (h : stE a p d = some e) : hasC ca d = true ∧ e.dot = d := by
  obtain ⟨h1, h2⟩ := (stE_some ha.ord).1 h
  exact ⟨by rw [← h2]; exact ha.has _ h1, h2⟩
theorem CaOk.ext2 {s t : Tr} {c d : List Sp} (h : CaOk s c) (k : CaOk t d) (hl : ∀ p x, stE s p x = stE t p x) (hd : ∀ x, hasC c x = hasC d x) : s = t ∧ c = d := by
  refine h.ext k (fun p e => ?_) hd
  have h1 := @stE_some s h.ord p e.dot e
  have h2 := @stE_some t k.ord p e.dot e
  rw [hl] at h1
  simp only [and_true] at h1 h2
  exact h1.symm.trans h2
theorem join_idem {a : Tr} {ca : List Sp} (ha : CaOk a ca) : jT a a ca ca = a ∧ jC ca ca = ca := by
  refine (jT_ok ha ha).ext2 ha (fun p d => ?_) fun d => ?_
  · rw [stE_join ha ha]; cases h : stE a p d <;> simp [jnO, grt_self]
  · rw [hasC_union ha.ap ha.ap, Bool.or_self]
theorem join_comm {a b : Tr} {ca cb : List Sp} (ha : CaOk a ca) (hb : CaOk b cb) : jT a b ca cb = jT b a cb ca ∧ jC ca cb = jC cb ca := by
  refine (jT_ok ha hb).ext2 (jT_ok hb ha) (fun p d => ?_) fun d => ?_
  · rw [stE_join ha hb, stE_join hb ha]
    cases h : stE a p d <;> cases k : stE b p d <;> simp [jnO]
    exact grt_comm ((stE_has ha h).2.trans (stE_has hb k).2.symm)
  · rw [hasC_union ha.ap hb.ap, hasC_union hb.ap ha.ap, Bool.or_comm]
theorem join_assoc {a b c : Tr} {ca cb cc : List Sp} (ha : CaOk a ca) (hb : CaOk b cb) (hc : CaOk c cc) : jT (jT a b ca cb) c (jC ca cb) cc = jT a (jT b c cb cc) ca (jC cb cc) ∧ jC (jC ca cb) cc = jC ca (jC cb cc) := by
  have hab := jT_ok ha hb
  have hbc := jT_ok hb hc
  refine (jT_ok hab hc).ext2 (jT_ok ha hbc) (fun p d => ?_) fun d => ?_
  · rw [stE_join hab hc, stE_join ha hbc, stE_join ha hb, stE_join hb hc, hasC_union ha.ap hb.ap, hasC_union hb.ap hc.ap]
    cases h1 : stE a p d with
    | none =>
      cases h2 : stE b p d with
      | none => cases h3 : stE c p d <;> cases hasC ca d <;> cases hasC cb d <;> cases hasC cc d <;> rfl
      | some y =>
        have g2 := (stE_has hb h2).1
        cases h3 : stE c p d with
        | none => rw [g2]; cases hasC ca d <;> cases hasC cc d <;> rfl
        | some z => rw [g2, (stE_has hc h3).1]; cases hasC ca d <;> rfl
    | some x =>
      have g1 := (stE_has ha h1).1
      cases h2 : stE b p d with
      | none =>
        cases h3 : stE c p d with
        | none => rw [g1]; cases hasC cb d <;> cases hasC cc d <;> rfl
        | some z => rw [g1, (stE_has hc h3).1]; cases hasC cb d <;> rfl
      | some y =>
        have g2 := (stE_has hb h2).1
        cases h3 : stE c p d with
        | none => rw [g1, g2]; cases hasC cc d <;> rfl
        | some z =>
          rw [g1, g2, (stE_has hc h3).1]
          simp only [jnO]
          rw [grt_assoc ((stE_has ha h1).2.trans (stE_has hb h2).2.symm) ((stE_has hb h2).2.trans (stE_has hc h3).2.symm)]
  · rw [hasC_union hab.ap hc.ap, hasC_union ha.ap hb.ap, hasC_union ha.ap hbc.ap, hasC_union hb.ap hc.ap, Bool.or_assoc]
theorem CaOk.nil : CaOk (.mk [] []) [] := ⟨ord_nil, fun x h => by simp [Tr.lvs, Tr.lvsL] at h, apart_nil, fun x h => by simp [Tr.lvs, Tr.lvsL] at h⟩
theorem join_nil {a : Tr} {ca : List Sp} (ha : CaOk a ca) : jT (.mk [] []) a [] ca = a ∧ jC [] ca = ca := by
  refine (jT_ok CaOk.nil ha).ext2 ha (fun p d => ?_) fun d => ?_
  · rw [stE_join CaOk.nil ha, hasC_nil]
    cases h : stE a p d <;> simp [jnO, stE, Tr.lvs, Tr.lvsL]
  · rw [hasC_union apart_nil ha.ap, hasC_nil, Bool.false_or]
end Go.Proofs.YtmphgnjodangcaaGreat

namespace Go.Proofs.YtmphgnjodangcaaGreat
open Go.RowKit
set_option maxRecDepth 100000

theorem chkT_dots {t : Tr} {d : Dt} (h : chkT t d = true) : t.right 5 = true ∧ d.right = true ∧ d ∉ t.dots := by
  unfold chkT at h
  rw [Bool.and_eq_true, Bool.and_eq_true] at h
  refine ⟨h.1.1, h.1.2, fun hm => ?_⟩
  rw [(hasC_dots h.1.1).2 hm] at h
  simp at h
/-- The context of a tree's dots. -/
abbrev knC (t : Tr) : List Sp := ctxOf t.dots
theorem known_ok {t : Tr} (h : t.right 5 = true) : CaOk t (knC t) := by
  have ha := apart_ctxOf (dots_right h)
  refine caR_iff.1 ?_
  unfold caR
  rw [h, (cLeq_iff ha ha).2 fun _ hd => hd]; rfl
theorem seen_has {t : Tr} {d x : Dt} (h : t.right 5 = true) (hd : d.right = true) : hasC (seenC t d) x = true ↔ x ∈ t.dots ∨ x = d := by
  have hr : ∀ y ∈ [d], y.right = true := fun y hy => by simp at hy; subst hy; exact hd
  unfold seenC
  rw [hasC_union (apart_ctxOf (dots_right h)) (apart_ctxOf hr), Bool.or_eq_true, hasC_dots h]
  refine or_congr Iff.rfl ?_
  constructor
  · intro hc; rw [hasC_ctxOf hr (hasC_right hc)] at hc; simpa using hc
  · rintro rfl; rw [hasC_ctxOf hr hd]; simp
theorem seen_apart {t : Tr} {d : Dt} (h : t.right 5 = true) (hd : d.right = true) : apartB (seenC t d) = true :=
  apart_by (apart_ctxOf (dots_right h)) (apart_ctxOf fun y hy => by simp at hy; subst hy; exact hd) 0
/-- One entry alone. -/
abbrev tOne (e : En) : Tr := .mk [e] []
theorem tOne_mem {e : En} {x : Lf} : x ∈ (tOne e).lvs [] ↔ x = ([], e) := by simp [Tr.lvs, Tr.lvsL]
theorem tOne_ord (e : En) : (tOne e).Ord := Ord.mk' (List.pairwise_singleton _ _) .nil fun _ _ h => by cases h
theorem tOne_ok {e : En} {c : List Sp} (he : e.right = true) (hc : apartB c = true) (hh : hasC c e.dot = true) : CaOk (tOne e) c :=
  ⟨tOne_ord e, fun x hx => by rw [tOne_mem.1 hx]; exact ⟨by simp, by simp, he⟩, hc, fun x hx => by rw [tOne_mem.1 hx]; exact hh⟩
theorem nil_ok {c : List Sp} (hc : apartB c = true) : CaOk (.mk [] []) c := ⟨ord_nil, fun x h => by simp [Tr.lvs, Tr.lvsL] at h, hc, fun x h => by simp [Tr.lvs, Tr.lvsL] at h⟩
theorem stE_one (e : En) (p : List ByteArray) (d : Dt) : stE (tOne e) p d = if p = [] ∧ d = e.dot then some e else none := by
  split
  · rename_i h
    obtain ⟨rfl, rfl⟩ := h
    exact (stE_some (tOne_ord e)).2 ⟨tOne_mem.2 rfl, rfl⟩
  · rename_i h
    refine (stE_none (tOne_ord e)).2 fun y hy hd => h ?_
    have := tOne_mem.1 hy
    cases this
    exact ⟨rfl, hd.symm⟩
theorem stE_nil (p : List ByteArray) (d : Dt) : stE (.mk [] []) p d = none := by simp [stE, Tr.lvs, Tr.lvsL]
theorem stE_dots {t : Tr} (h : t.Ord) {p : List ByteArray} {d : Dt} {e : En} (hs : stE t p d = some e) : d ∈ t.dots := by
  obtain ⟨h1, h2⟩ := (stE_some h).1 hs
  exact (mem_dots t d).2 ⟨p, e, h1, h2⟩
theorem stE_out {t : Tr} (h : t.Ord) {p : List ByteArray} {d : Dt} (hd : d ∉ t.dots) : stE t p d = none := by
  cases hs : stE t p d with
  | none => rfl
  | some e => exact absurd (stE_dots h hs) hd
theorem st_ext {s t : Tr} (h : s.Ord) (k : t.Ord) (hl : ∀ p x, stE s p x = stE t p x) : s = t :=
  ord_ext s t h k fun ⟨p, e⟩ => by
    have h1 := @stE_some s h p e.dot e
    have h2 := @stE_some t k p e.dot e
    rw [hl] at h1
    simp only [and_true] at h1 h2
    exact h1.symm.trans h2
theorem seen_hasB {t : Tr} {d x : Dt} (h : t.right 5 = true) (hd : d.right = true) : hasC (seenC t d) x = (decide (x ∈ t.dots) || decide (x = d)) := by
  rw [Bool.eq_iff_iff, seen_has h hd]; simp
theorem kn_hasB {t : Tr} {x : Dt} (h : t.right 5 = true) : hasC (knC t) x = decide (x ∈ t.dots) := by
  rw [Bool.eq_iff_iff, hasC_dots h]; simp
/-- What was seen, with an entry put, joined to what is known: the entry alone. -/
theorem turn_on {t : Tr} {e : En} (h : chkT t e.dot = true) (he : e.right = true) : CaOk (tOne e) (seenC t e.dot) ∧ jT t (tOne e) (knC t) (seenC t e.dot) = tOne e := by
  obtain ⟨h1, h2, h3⟩ := chkT_dots h
  have hk := known_ok h1
  have ho : CaOk (tOne e) (seenC t e.dot) := tOne_ok he (seen_apart h1 h2) ((seen_has h1 h2).2 (.inr rfl))
  refine ⟨ho, st_ext (jT_ok hk ho).ord (tOne_ord e) fun p x => ?_⟩
  rw [stE_join hk ho, stE_one, seen_hasB h1 h2, kn_hasB h1]
  by_cases hx : p = [] ∧ x = e.dot
  · obtain ⟨rfl, rfl⟩ := hx
    rw [stE_out hk.ord h3]; simp [jnO, h3]
  · rw [if_neg hx]
    cases hs : stE t p x with
    | none => simp [jnO]
    | some y => simp [jnO, stE_dots hk.ord hs]
theorem turn_off {t : Tr} {d : Dt} (h : chkT t d = true) : CaOk (.mk [] []) (seenC t d) ∧ jT (.mk [] []) t (seenC t d) (knC t) = .mk [] [] := by
  obtain ⟨h1, h2, h3⟩ := chkT_dots h
  have hk := known_ok h1
  have ho : CaOk (.mk [] []) (seenC t d) := nil_ok (seen_apart h1 h2)
  refine ⟨ho, st_ext (jT_ok ho hk).ord ord_nil fun p x => ?_⟩
  rw [stE_join ho hk, stE_nil, seen_hasB h1 h2]
  cases hs : stE t p x with
  | none => simp [jnO]
  | some y => simp [jnO, stE_dots hk.ord hs]
theorem dot_en_right {d : Dt} (h : d.right = true) : (⟨d.dc, d.n, ByteArray.empty, 0⟩ : En).right = true := by
  unfold En.right En.dot; simp [h]
theorem onB_one {e : En} (he : e.right = true) : onB (tOne e) = true := by
  have : (tOne e).right 5 = true := right_of_leaf _ 5 (by omega) (tOne_ord e) fun x hx => by rw [tOne_mem.1 hx]; exact ⟨by simp, by simp, he⟩
  unfold onB
  rw [this]; rfl
theorem onB_nil : onB (.mk [] []) = false := by unfold onB; simp [Tr.es]
end Go.Proofs.YtmphgnjodangcaaGreat

namespace Go.Proofs.YtmphgnjodangcaaGreat
open Go.RowKit
set_option maxRecDepth 100000

/-- How big a kid of a key is, with its key. -/
def kz : List Kd → ByteArray → Nat
  | [], _ => 0
  | (k, t) :: ks, q => if k = q then 1 + t.sz else kz ks q
theorem kz_kid (ks : List Kd) (q : ByteArray) (es : List En) : (kidT (.mk es ks) q).sz ≤ kz ks q ∧ ((∃ t, (q, t) ∈ ks) → (kidT (.mk es ks) q).sz + 1 ≤ kz ks q) := by
  unfold kidT
  simp only [Tr.ks]
  induction ks with
  | nil => simp [kz, Tr.sz, Tr.szL]
  | cons y ks ih =>
    obtain ⟨k, t⟩ := y
    rw [kz, List.find?_cons]
    by_cases h : k = q
    · subst h; simp; omega
    · simp only [h, decide_false, if_false]
      refine ⟨ih.1, fun ⟨t', hm⟩ => ih.2 ⟨t', ?_⟩⟩
      rcases List.mem_cons.1 hm with e | hm
      · cases e; exact absurd rfl h
      · exact hm
theorem sum_one (c : Nat) (q : ByteArray) : ∀ (K : List ByteArray), K.Nodup → (K.map fun k => if q = k then c else 0).sum ≤ c
  | [], _ => by simp
  | k :: K, h => by
    obtain ⟨h1, h2⟩ := List.nodup_cons.1 h
    rw [List.map_cons, List.sum_cons]
    by_cases e : q = k
    · have : (K.map fun k => if q = k then c else 0).sum = 0 := by
        have hz : (K.map fun k => if q = k then c else 0) = K.map fun _ => 0 := List.map_congr_left fun x hx => by
          rw [if_neg]; rintro rfl; exact h1 (e ▸ hx)
        rw [hz]; clear hz h1 h2 h
        induction K with
        | nil => rfl
        | cons _ _ ih => simp [ih]
      rw [if_pos e, this]; omega
    · rw [if_neg e]; have := sum_one c q K h2; omega
theorem sum_le {α : Type} (f g : α → Nat) : ∀ (K : List α), (∀ k ∈ K, f k ≤ g k) → (K.map f).sum ≤ (K.map g).sum
  | [], _ => by simp
  | k :: K, h => by
    have h1 := h k (by simp)
    have h2 := sum_le f g K fun k hk => h k (by simp [hk])
    simp only [List.map_cons, List.sum_cons]; omega
theorem sum_add {α : Type} (f g : α → Nat) : ∀ (K : List α), (K.map fun k => f k + g k).sum = (K.map f).sum + (K.map g).sum
  | [] => by simp
  | k :: K => by
    have h2 := sum_add f g K
    simp only [List.map_cons, List.sum_cons] at h2 ⊢; omega
theorem kz_sum : ∀ (ks : List Kd) (K : List ByteArray), K.Nodup → (K.map (kz ks)).sum ≤ Tr.szL ks
  | [], K, _ => by
    have : K.map (kz []) = K.map fun _ => 0 := List.map_congr_left fun _ _ => rfl
    rw [this]
    have : ∀ K : List ByteArray, (K.map fun _ => 0).sum = 0 := fun K => by induction K with | nil => rfl | cons _ _ ih => simp [ih]
    rw [this]; exact Nat.zero_le _
  | (k, t) :: ks, K, h => by
    have h1 := kz_sum ks K h
    have h2 := sum_one (1 + t.sz) k K h
    have h3 := sum_le (kz ((k, t) :: ks)) (fun q => (if k = q then 1 + t.sz else 0) + kz ks q) K fun q _ => by rw [kz]; split <;> omega
    rw [sum_add] at h3
    rw [Tr.szL]; omega
theorem szL_flat (f : ByteArray → Tr) (g : ByteArray → Nat) : ∀ (K : List ByteArray), (∀ k ∈ K, (f k).sz + 1 ≤ g k) → Tr.szL (K.flatMap (joinF f)) ≤ (K.map g).sum
  | [], _ => by simp [Tr.szL]
  | k :: K, h => by
    have h1 := h k (by simp)
    have h2 := szL_flat f g K fun k hk => h k (by simp [hk])
    rw [List.flatMap_cons, List.map_cons, List.sum_cons]
    unfold joinF at h2 ⊢
    split
    · simp; omega
    · simp [Tr.szL]; omega
theorem nodup_lt {K : List ByteArray} (h : K.Pairwise fun a b => ltS a b = true) : K.Nodup :=
  h.imp fun {a b} hab e => by subst e; rw [ltS_irrefl] at hab; cases hab
theorem join_sz (ca cb : List Sp) : ∀ (n : Nat) (a b : Tr), a.Ord → b.Ord → a.dep ≤ n → b.dep ≤ n → (joinT n ca cb a b).sz ≤ a.sz + b.sz := by
  intro n
  induction n with
  | zero => intro a b _ _ h _; have := dep_pos a; omega
  | succ n ih =>
  intro a b ha hb hda hdb
  obtain ⟨hk1, hk2⟩ := joinK_spec a b
  have hN := nodup_lt hk1
  rw [joinT, Tr.sz]
  have h1 := entL_len ca cb _ a.es b.es (Nat.le_refl _)
  have h2 := szL_flat (fun k => joinT n ca cb (kidT a k) (kidT b k)) (fun k => kz a.ks k + kz b.ks k) (joinK a b) fun k hk => by
    have h3 := ih (kidT a k) (kidT b k) (kidT_ord ha k) (kidT_ord hb k) (kidT_dep ha hda (joinK_dep hda hdb hk) k) (kidT_dep hb hdb (joinK_dep hda hdb hk) k)
    have h4 := kz_kid a.ks k a.es
    have h5 := kz_kid b.ks k b.es
    have e1 : Tr.mk a.es a.ks = a := by cases a; rfl
    have e2 : Tr.mk b.es b.ks = b := by cases b; rfl
    rw [e1] at h4
    rw [e2] at h5
    obtain ⟨t, h | h⟩ := (hk2 k).1 hk
    · have := h4.2 ⟨t, h⟩; omega
    · have := h5.2 ⟨t, h⟩; omega
  rw [sum_add] at h2
  have h3 := kz_sum a.ks _ hN
  have h4 := kz_sum b.ks _ hN
  have e1 : a.sz = a.es.length + Tr.szL a.ks := by cases a; rw [Tr.sz]; rfl
  have e2 : b.sz = b.es.length + Tr.szL b.ks := by cases b; rw [Tr.sz]; rfl
  omega
theorem jT_sz {a b : Tr} {ca cb : List Sp} (ha : CaOk a ca) (hb : CaOk b cb) : (jT a b ca cb).sz ≤ a.sz + b.sz := join_sz ca cb 6 a b ha.ord hb.ord ha.dep hb.dep
theorem union_len {a b : List (Int × Int)} (ha : runsR none a = true) (hb : runsR none b = true) : (byL a b 0).length ≤ a.length + b.length := by
  have hp := List.mergeSort_perm (a ++ b) fun x y => decide (x.1 ≤ y.1)
  have hs : ((a ++ b).mergeSort fun x y => decide (x.1 ≤ y.1)).Pairwise fun x y => x.1 ≤ y.1 :=
    (List.pairwise_mergeSort (fun a b c h k => by simp at h k ⊢; omega) (fun a b => by simp; omega) (a ++ b)).imp fun h => by simpa using h
  rw [← join_union ha hb hp hs]
  have h := joinL_len ((a ++ b).mergeSort fun x y => decide (x.1 ≤ y.1)) (((a ++ b).mergeSort fun x y => decide (x.1 ≤ y.1)).length)
  rw [List.take_of_length_le (Nat.le_refl _), hp.length_eq, List.length_append] at h
  exact h
theorem dc_len (c : List Sp) (h : ∀ s ∈ c, 0 ≤ s.dc ∧ s.dc < 4) : (partL c 0).length + (partL c 1).length + (partL c 2).length + (partL c 3).length = c.length := by
  induction c with
  | nil => rfl
  | cons s c ih =>
    have h1 := ih fun s hs => h s (by simp [hs])
    have h2 := h s (by simp)
    obtain ⟨dc, fr, hi⟩ := s
    simp only at h2
    have h3 : dc = 0 ∨ dc = 1 ∨ dc = 2 ∨ dc = 3 := by omega
    unfold partL at h1 ⊢
    simp only [List.length_map] at h1 ⊢
    rcases h3 with rfl | rfl | rfl | rfl <;> simp <;> omega
theorem jC_len {a b : List Sp} (ha : apartB a = true) (hb : apartB b = true) : (jC a b).length ≤ a.length + b.length := by
  have h := apart_by ha hb 0
  have hdc : ∀ {c : List Sp}, apartB c = true → ∀ s ∈ c, 0 ≤ s.dc ∧ s.dc < 4 := fun {c} hc => apart_dcs c 0 (by unfold apartB at hc; rw [Bool.and_eq_true] at hc; exact hc.1)
  have e1 := dc_len a (hdc ha)
  have e2 := dc_len b (hdc hb)
  have e3 := dc_len (jC a b) (hdc h)
  have p0 : partL (jC a b) 0 = byL (partL a 0) (partL b 0) 0 := part_ctxBy a b 0 (i := 0) (by omega)
  have p1 : partL (jC a b) 1 = byL (partL a 1) (partL b 1) 0 := part_ctxBy a b 0 (i := 1) (by omega)
  have p2 : partL (jC a b) 2 = byL (partL a 2) (partL b 2) 0 := part_ctxBy a b 0 (i := 2) (by omega)
  have p3 : partL (jC a b) 3 = byL (partL a 3) (partL b 3) 0 := part_ctxBy a b 0 (i := 3) (by omega)
  have u0 : (byL (partL a 0) (partL b 0) 0).length ≤ (partL a 0).length + (partL b 0).length := union_len (apart_part ha (i := 0) (by omega)) (apart_part hb (i := 0) (by omega))
  have u1 : (byL (partL a 1) (partL b 1) 0).length ≤ (partL a 1).length + (partL b 1).length := union_len (apart_part ha (i := 1) (by omega)) (apart_part hb (i := 1) (by omega))
  have u2 : (byL (partL a 2) (partL b 2) 0).length ≤ (partL a 2).length + (partL b 2).length := union_len (apart_part ha (i := 2) (by omega)) (apart_part hb (i := 2) (by omega))
  have u3 : (byL (partL a 3) (partL b 3) 0).length ≤ (partL a 3).length + (partL b 3).length := union_len (apart_part ha (i := 3) (by omega)) (apart_part hb (i := 3) (by omega))
  rw [← p0] at u0
  rw [← p1] at u1
  rw [← p2] at u2
  rw [← p3] at u3
  omega
end Go.Proofs.YtmphgnjodangcaaGreat

namespace Go.Proofs.YtmphgnjodangcaaGreat
open Go.RowKit
set_option maxRecDepth 100000

abbrev Kn := Tr × List Sp
abbrev KOk (x : Kn) : Prop := CaOk x.1 x.2
def jn (x y : Kn) : Kn := (jT x.1 y.1 x.2 y.2, jC x.2 y.2)
def kn0 : Kn := (.mk [] [], [])
theorem kn0_ok : KOk kn0 := CaOk.nil
theorem jn_okK {x y : Kn} (hx : KOk x) (hy : KOk y) : KOk (jn x y) := jT_ok hx hy
theorem jn_idem {x : Kn} (hx : KOk x) : jn x x = x := Prod.ext (join_idem hx).1 (join_idem hx).2
theorem jn_comm {x y : Kn} (hx : KOk x) (hy : KOk y) : jn x y = jn y x := Prod.ext (join_comm hx hy).1 (join_comm hx hy).2
theorem jn_assoc {x y z : Kn} (hx : KOk x) (hy : KOk y) (hz : KOk z) : jn (jn x y) z = jn x (jn y z) := Prod.ext (join_assoc hx hy hz).1 (join_assoc hx hy hz).2
theorem jn_nil {x : Kn} (hx : KOk x) : jn kn0 x = x := Prod.ext (join_nil hx).1 (join_nil hx).2
theorem jn_right {x y z : Kn} (hx : KOk x) (hy : KOk y) (hz : KOk z) : jn (jn x y) z = jn (jn x z) y := by
  rw [jn_assoc hx hy hz, jn_comm hy hz, jn_assoc hx hz hy]
def caK (x : Kn) : Bool := caR x.1 x.2
theorem caK_iff {x : Kn} : caK x = true ↔ KOk x := caR_iff
theorem jn_sz {x y : Kn} (hx : KOk x) (hy : KOk y) : (jn x y).1.sz ≤ x.1.sz + y.1.sz ∧ (jn x y).2.length ≤ x.2.length + y.2.length := ⟨jT_sz hx hy, jC_len hx.ap hy.ap⟩
/-- All joined. -/
def jnL (l : List Kn) : Kn := l.foldl jn kn0
theorem jnL_snoc (l : List Kn) (x : Kn) : jnL (l ++ [x]) = jn (jnL l) x := by unfold jnL; rw [List.foldl_append]; rfl
theorem foldl_ok : ∀ (l : List Kn) (z : Kn), KOk z → (∀ x ∈ l, KOk x) → KOk (l.foldl jn z)
  | [], _, hz, _ => hz
  | x :: l, z, hz, h => foldl_ok l (jn z x) (jn_okK hz (h x (by simp))) fun y hy => h y (by simp [hy])
theorem jnL_ok {l : List Kn} (h : ∀ x ∈ l, KOk x) : KOk (jnL l) := foldl_ok l kn0 kn0_ok h
theorem foldl_perm {l m : List Kn} (hp : l.Perm m) : ∀ z, KOk z → (∀ x ∈ l, KOk x) → l.foldl jn z = m.foldl jn z := by
  induction hp with
  | nil => intro z _ _; rfl
  | cons x _ ih => intro z hz h; exact ih (jn z x) (jn_okK hz (h x (by simp))) fun y hy => h y (by simp [hy])
  | swap x y l => intro z hz h; simp only [List.foldl_cons]; rw [jn_right hz (h y (by simp)) (h x (by simp))]
  | trans h1 _ ih1 ih2 => intro z hz h; rw [ih1 z hz h, ih2 z hz fun x hx => h x (h1.symm.subset hx)]
theorem jnL_perm {l m : List Kn} (hp : l.Perm m) (h : ∀ x ∈ l, KOk x) : jnL l = jnL m := foldl_perm hp kn0 kn0_ok h
theorem foldl_sz : ∀ (l : List Kn) (z : Kn), KOk z → (∀ x ∈ l, KOk x) → (l.foldl jn z).1.sz ≤ z.1.sz + (l.map fun x => x.1.sz).sum ∧ (l.foldl jn z).2.length ≤ z.2.length + (l.map fun x => x.2.length).sum
  | [], _, _, _ => by simp
  | x :: l, z, hz, h => by
    have h1 := jn_sz hz (h x (by simp))
    have h2 := foldl_sz l (jn z x) (jn_okK hz (h x (by simp))) fun y hy => h y (by simp [hy])
    simp only [List.foldl_cons, List.map_cons, List.sum_cons]; omega
/-- What causal.JoinAll tells. -/
def jaK (l : List Kn) : Bool := l.all caK
def jaE (l : List Kn) : Int := if jaK l then 0 else 1
def jaR (l : List Kn) : Kn := if jaK l then jnL l else kn0
theorem jaK_iff {l : List Kn} : jaK l = true ↔ ∀ x ∈ l, KOk x := by
  unfold jaK; rw [List.all_eq_true]; exact forall_congr' fun x => forall_congr' fun _ => caK_iff
theorem jaK_perm {l m : List Kn} (hp : l.Perm m) : jaK l = jaK m := by
  rw [Bool.eq_iff_iff, jaK_iff, jaK_iff]
  exact ⟨fun h x hx => h x (hp.symm.subset hx), fun h x hx => h x (hp.subset hx)⟩
theorem jaR_perm {l m : List Kn} (hp : l.Perm m) : jaR l = jaR m := by
  unfold jaR
  rw [← jaK_perm hp]
  split
  · rename_i h; exact jnL_perm hp (jaK_iff.1 h)
  · rfl
theorem ja_ok {l : List Kn} (h : ∀ x ∈ l, KOk x) : jaE l = 0 ∧ jaR l = jnL l ∧ KOk (jaR l) := by
  unfold jaE jaR
  rw [jaK_iff.2 h]
  exact ⟨rfl, rfl, jnL_ok h⟩
theorem jnL_two {x y : Kn} (hx : KOk x) : jnL [x, y] = jn x y := by show jn (jn kn0 x) y = _; rw [jn_nil hx]
theorem jnL_three {x y z : Kn} (hx : KOk x) : jnL [x, y, z] = jn (jn x y) z := by show jn (jn (jn kn0 x) y) z = _; rw [jn_nil hx]
/-- At most. -/
def leK (x y : Kn) : Prop := jn x y = y
end Go.Proofs.YtmphgnjodangcaaGreat

namespace Go.Proofs.YtmphgnjodangcaaGreat
open Go.RowKit
set_option maxRecDepth 100000

theorem jn_st {x y : Kn} (hx : KOk x) (hy : KOk y) (p : List ByteArray) (d : Dt) : stE (jn x y).1 p d = jnO (stE x.1 p d) (hasC x.2 d) (stE y.1 p d) (hasC y.2 d) := stE_join hx hy p d
theorem jn_has {x y : Kn} (hx : KOk x) (hy : KOk y) (d : Dt) : hasC (jn x y).2 d = (hasC x.2 d || hasC y.2 d) := hasC_union hx.ap hy.ap d
/-- What is joined of three, in two orders. -/
theorem ja_three {x y z : Kn} (hx : KOk x) (hy : KOk y) (hz : KOk z) {l : List Kn} (hp : l.Perm [x, y, z]) : jaE l = 0 ∧ jaR l = jn (jn x y) z ∧ KOk (jn (jn x y) z) := by
  have h : ∀ u ∈ [x, y, z], KOk u := fun u hu => by simp at hu; rcases hu with rfl | rfl | rfl <;> assumption
  have h' : ∀ u ∈ l, KOk u := fun u hu => h u (hp.subset hu)
  obtain ⟨h1, h2, h3⟩ := ja_ok h
  refine ⟨(ja_ok h').1, ?_, jn_okK (jn_okK hx hy) hz⟩
  rw [jaR_perm hp, h2, jnL_three hx]
theorem kn_sz {t : Tr} (h : t.sz ≤ 60) : (knC t).length ≤ 400 := by
  have hcl : (knC t).length ≤ 4 * (t.dots.length + 1) := ctxOfK_len t.dots 4
  have hdl := dots_len t
  omega
theorem seen_sz {t : Tr} {d : Dt} (h : t.sz ≤ 60) : (seenC t d).length ≤ 4000 := by have := seenC_len t d; omega
/-- The cells of the one entry. -/
theorem one_cells {X : Tr} {e : En} (hX : X = tOne e) {W : World} {B : Nat} {A : Option Addr} {n : Nat} {vk : Value} (h : X.rd W B (.slice A X.es.length n) vk) :
    ∃ b off, A = some ⟨b, off, none⟩ ∧ b < B ∧ W.cell? ⟨b, off, none⟩ = some (.int .i64 e.dc) ∧ W.cell? ⟨b, off + 1, none⟩ = some (.int .i64 e.n) := by
  subst hX
  obtain ⟨⟨A', c, hv, _, _, h3⟩, _⟩ := rd_iff.1 h
  cases hv
  obtain ⟨b, off, rfl, hb, hc⟩ := h3 (by simp)
  obtain ⟨cs, ⟨rfl, _⟩, _, hu⟩ := hc 0 e rfl
  exact ⟨b, off, rfl, hb, by simpa using hu 0 _ rfl, by simpa using hu 1 _ rfl⟩
end Go.Proofs.YtmphgnjodangcaaGreat

namespace Go.Proofs.YtmphgnjodangcaaGreat
open Go.RowKit
set_option maxRecDepth 100000

/-- What ormap.Update tells: the error's number, the tree, the context. -/
def updE (t : Tr) (key : ByteArray) (D : Tr) (c : List Sp) : Int :=
  if !(t.right 5) || !caR D c || !keyB key then 1 else if !empB D.es.length D.ks.length && decide (24 ≤ t.ks.length) && !(t.ks.any fun y => decide (y.1 = key)) then 4 else wrapE D key
def updT (t : Tr) (key : ByteArray) (D : Tr) (c : List Sp) : Tr := if updE t key D c = 0 then wrapT D key else .mk [] []
def updC (t : Tr) (key : ByteArray) (D : Tr) (c : List Sp) : List Sp := if updE t key D c = 0 then c else []

theorem cell_box3n {w3 : World} {b : Nat} {x0 x1 x2 : Value} {a : Addr} {v : Value} (hne : b ≠ a.block) (h : w3.cell? a = some v) :
    (((w3.setCell ⟨b, 0, none⟩ x0).setCell ⟨b, 1, none⟩ x1).setCell ⟨b, 2, none⟩ x2).cell? a = some v := by
  rw [World.cell?_setCell_far _ _ _ _ hne, World.cell?_setCell_far _ _ _ _ hne, World.cell?_setCell_far _ _ _ _ hne]; exact h
set_option maxHeartbeats 4000000 in
theorem oupdate_any (t D : Tr) (c : List Sp) (key : ByteArray) (ve vk xe xk xc : Value) (w : World) (h : t.rd w w.heap.size ve vk) (hD : D.rd w w.heap.size xe xk) (hc : SlP w w.heap.size 3 SpE xc c) (hkey : key.size ≤ Big) (hN : t.sz ≤ 4000) (hN' : D.sz ≤ 4000) (hN2 : c.length ≤ 20000) :
    Calls Tryz.prog 58 #[.agg #[ve, vk], .string key, .agg #[xe, xk, xc]] w (RetCE w (updT t key D c) (updC t key D c) (updE t key D c)) := by
  have HT : Hid (∀ w', Below w.heap.size w w' → t.rd w' w'.heap.size ve vk) := fun w' hb => rd_below hb hb.size _ _ _ h
  have HD : Hid (∀ w', Below w.heap.size w w' → D.rd w' w'.heap.size xe xk) := fun w' hb => rd_below hb hb.size _ _ _ hD
  have HC : Hid (∀ w', Below w.heap.size w w' → SlP w' w'.heap.size 3 SpE xc c) := fun w' hb => hc.imp hb hb.size fun _ _ _ h => h
  have HKS : Hid (∀ w', Below w.heap.size w w' → SlP w' w'.heap.size 3 (KdE w' w'.heap.size) vk t.ks) := fun w' hb => by
    have := HT.out w' hb; obtain ⟨es, ks⟩ := t; exact (rd_iff.1 this).2
  obtain ⟨A3, n3, A4, n4, rfl, rfl⟩ := rd_shape h
  obtain ⟨A5, n5, A6, n6, rfl, rfl⟩ := rd_shape hD
  obtain ⟨A7, n7, rfl, _⟩ := hc
  have hkb : key.size ≤ 140737488355328 := hkey
  clear h hD
  have hb0 : Below w.heap.size w ((((w.alloc (.cells #[.slice A3 t.es.length n3, .slice A4 t.ks.length n4] 27)).alloc (.cells #[.string key] 9)).alloc (.cells #[.slice A5 D.es.length n5, .slice A6 D.ks.length n6, .slice A7 c.length n7] 31)).alloc (.cells #[.slice none 0 0, .slice none 0 0, .slice none 0 0] 31)) :=
    ((((Below.refl _ w).alloc (Nat.le_refl _) _).alloc (by simp) _).alloc (by simp <;> omega) _).alloc (by simp <;> omega) _
  have HW : Hid (∀ w', Below (w.heap.size + 4) ((((w.alloc (.cells #[.slice A3 t.es.length n3, .slice A4 t.ks.length n4] 27)).alloc (.cells #[.string key] 9)).alloc (.cells #[.slice A5 D.es.length n5, .slice A6 D.ks.length n6, .slice A7 c.length n7] 31)).alloc (.cells #[.slice none 0 0, .slice none 0 0, .slice none 0 0] 31)) w' →
      Below w.heap.size w w' ∧ w.heap.size + 4 ≤ w'.heap.size ∧ w'.heap[w.heap.size]? = some (.cells #[.slice A3 t.es.length n3, .slice A4 t.ks.length n4] 27 (0, 0)) ∧ w'.heap[w.heap.size + 1]? = some (.cells #[.string key] 9 (0, 0)) ∧
      w'.heap[w.heap.size + 2]? = some (.cells #[.slice A5 D.es.length n5, .slice A6 D.ks.length n6, .slice A7 c.length n7] 31 (0, 0)) ∧ w'.heap[w.heap.size + 3]? = some (.cells #[.slice none 0 0, .slice none 0 0, .slice none 0 0] 31 (0, 0))) := fun w' hb =>
    ⟨hb0.trans (hb.mono (by omega)), by have := hb.size; simpa using this, (hb.block _ (by omega)).trans ((heap_old (by simp <;> omega)).trans ((heap_old (by simp <;> omega)).trans ((heap_old (by simp)).trans (heap_new rfl)))), (hb.block _ (by omega)).trans ((heap_old (by simp <;> omega)).trans ((heap_old (by simp)).trans (heap_new (by simp)))), (hb.block _ (by omega)).trans ((heap_old (by simp)).trans (heap_new (by simp))), (hb.block _ (by omega)).trans (heap_new (by simp))⟩
  go_enter Tryz.func58, Tryz.ntmps58
  go_wp2_with fail
  refine (tRight_any t _ _ _ (HT.out _ hb0)).mono ?_
  rintro e w1 ⟨rfl, hb1⟩
  have hb1' := hid (hb1.mono (show w.heap.size + 4 ≤ _ by simp))
  obtain ⟨hB1, hs1, g3, g4, g5, g6⟩ := HW.out _ hb1'.out
  have HG6 := hid g6
  have c0 : w1.cell? ⟨w.heap.size, 0, none⟩ = some (.slice A3 t.es.length n3) := cell_cells (i := 0) g3
  have c1 : w1.cell? ⟨w.heap.size, 1, none⟩ = some (.slice A4 t.ks.length n4) := cell_cells (i := 1) g3
  have d0 : w1.cell? ⟨w.heap.size + 1, 0, none⟩ = some (.string key) := cell_cells (i := 0) g4
  have e0 : w1.cell? ⟨w.heap.size + 2, 0, none⟩ = some (.slice A5 D.es.length n5) := cell_cells (i := 0) g5
  have e1 : w1.cell? ⟨w.heap.size + 2, 1, none⟩ = some (.slice A6 D.ks.length n6) := cell_cells (i := 1) g5
  have e2 : w1.cell? ⟨w.heap.size + 2, 2, none⟩ = some (.slice A7 c.length n7) := cell_cells (i := 2) g5
  have k0 : w1.cell? ⟨w.heap.size + 3, 0, none⟩ = some (.slice none 0 0) := cell_cells (i := 0) g6
  have k1 : w1.cell? ⟨w.heap.size + 3, 1, none⟩ = some (.slice none 0 0) := cell_cells (i := 1) g6
  have k2 : w1.cell? ⟨w.heap.size + 3, 2, none⟩ = some (.slice none 0 0) := cell_cells (i := 2) g6
  have z0 := cells_frz (i := 0) g6
  have z1 := cells_frz (i := 1) g6
  have z2 := cells_frz (i := 2) g6
  clear g3 g4 g5 g6
  clear hb1
  cases hr : t.right 5
  · have HE : Hid (updE t key D c = 1) := by unfold Hid updE; rw [hr]; rfl
    have HTT : Hid (updT t key D c = .mk [] []) := by unfold Hid updT; rw [HE.out]; rfl
    have HCC : Hid (updC t key D c = []) := by unfold Hid updC; rw [HE.out]; rfl
    clear hr
    go_wp2_with fail
    obtain ⟨r0, r1, r2, hK, hS⟩ := box3 HG6.out (.slice none 0 0) (.slice none 0 0) (.slice none 0 0)
    have hBW := ((hB1.setCell (p := ⟨w.heap.size + 3, 0, none⟩) (by simp) (.slice none 0 0)).setCell (p := ⟨w.heap.size + 3, 1, none⟩) (by simp) (.slice none 0 0)).setCell (p := ⟨w.heap.size + 3, 2, none⟩) (by simp) (.slice none 0 0)
    refine bodyPost_ret (v := .tuple #[.agg #[.slice none 0 0, .slice none 0 0, .slice none 0 0], .int .i64 1]) (by simp [results, Tryz.results58, go_sem, r0, r1, r2]) rfl ⟨_, _, _, by rw [HE.out], by rw [HTT.out]; exact rda_nil _ _, by rw [HCC.out]; exact SlA.nil, hBW⟩
  go_wp2_with fail
  refine (caright_any D c _ _ _ w1 (HD.out _ hB1) (HC.out _ hB1) hN' hN2).mono ?_
  rintro e w2 ⟨rfl, hb2⟩
  clear c0 c1 d0 e0 e1 e2 k0 k1 k2 z0 z1 z2 HG6
  have hb2' := hid (hb1'.out.trans (hb2.mono hs1))
  obtain ⟨hB2, hs2, g3, g4, g5, g6⟩ := HW.out _ hb2'.out
  have HG6 := hid g6
  have c0 : w2.cell? ⟨w.heap.size, 0, none⟩ = some (.slice A3 t.es.length n3) := cell_cells (i := 0) g3
  have c1 : w2.cell? ⟨w.heap.size, 1, none⟩ = some (.slice A4 t.ks.length n4) := cell_cells (i := 1) g3
  have d0 : w2.cell? ⟨w.heap.size + 1, 0, none⟩ = some (.string key) := cell_cells (i := 0) g4
  have e0 : w2.cell? ⟨w.heap.size + 2, 0, none⟩ = some (.slice A5 D.es.length n5) := cell_cells (i := 0) g5
  have e1 : w2.cell? ⟨w.heap.size + 2, 1, none⟩ = some (.slice A6 D.ks.length n6) := cell_cells (i := 1) g5
  have e2 : w2.cell? ⟨w.heap.size + 2, 2, none⟩ = some (.slice A7 c.length n7) := cell_cells (i := 2) g5
  have k0 : w2.cell? ⟨w.heap.size + 3, 0, none⟩ = some (.slice none 0 0) := cell_cells (i := 0) g6
  have k1 : w2.cell? ⟨w.heap.size + 3, 1, none⟩ = some (.slice none 0 0) := cell_cells (i := 1) g6
  have k2 : w2.cell? ⟨w.heap.size + 3, 2, none⟩ = some (.slice none 0 0) := cell_cells (i := 2) g6
  have z0 := cells_frz (i := 0) g6
  have z1 := cells_frz (i := 1) g6
  have z2 := cells_frz (i := 2) g6
  clear g3 g4 g5 g6
  clear hb2
  cases hq : caR D c
  · have HE : Hid (updE t key D c = 1) := by unfold Hid updE; rw [hr, hq]; rfl
    have HTT : Hid (updT t key D c = .mk [] []) := by unfold Hid updT; rw [HE.out]; rfl
    have HCC : Hid (updC t key D c = []) := by unfold Hid updC; rw [HE.out]; rfl
    clear hr hq
    go_wp2_with fail
    obtain ⟨r0, r1, r2, hK, hS⟩ := box3 HG6.out (.slice none 0 0) (.slice none 0 0) (.slice none 0 0)
    have hBW := ((hB2.setCell (p := ⟨w.heap.size + 3, 0, none⟩) (by simp) (.slice none 0 0)).setCell (p := ⟨w.heap.size + 3, 1, none⟩) (by simp) (.slice none 0 0)).setCell (p := ⟨w.heap.size + 3, 2, none⟩) (by simp) (.slice none 0 0)
    refine bodyPost_ret (v := .tuple #[.agg #[.slice none 0 0, .slice none 0 0, .slice none 0 0], .int .i64 1]) (by simp [results, Tryz.results58, go_sem, r0, r1, r2]) rfl ⟨_, _, _, by rw [HE.out], by rw [HTT.out]; exact rda_nil _ _, by rw [HCC.out]; exact SlA.nil, hBW⟩
  cases kb : keyB key
  · have hkb2 : ¬ (1 ≤ key.size ∧ key.size ≤ 30) := by simpa [keyB] using kb
    have HE : Hid (updE t key D c = 1) := by unfold Hid updE; rw [hr, hq, kb]; rfl
    have HTT : Hid (updT t key D c = .mk [] []) := by unfold Hid updT; rw [HE.out]; rfl
    have HCC : Hid (updC t key D c = []) := by unfold Hid updC; rw [HE.out]; rfl
    clear hr hq kb
    by_cases hz : key.size < 1
    · have t1 : decide ((key.size : Int) < 1) = true := by simp; omega
      go_wp2_with fail
      obtain ⟨r0, r1, r2, hK, hS⟩ := box3 HG6.out (.slice none 0 0) (.slice none 0 0) (.slice none 0 0)
      have hBW := ((hB2.setCell (p := ⟨w.heap.size + 3, 0, none⟩) (by simp) (.slice none 0 0)).setCell (p := ⟨w.heap.size + 3, 1, none⟩) (by simp) (.slice none 0 0)).setCell (p := ⟨w.heap.size + 3, 2, none⟩) (by simp) (.slice none 0 0)
      refine bodyPost_ret (v := .tuple #[.agg #[.slice none 0 0, .slice none 0 0, .slice none 0 0], .int .i64 1]) (by simp [results, Tryz.results58, go_sem, r0, r1, r2]) rfl ⟨_, _, _, by rw [HE.out], by rw [HTT.out]; exact rda_nil _ _, by rw [HCC.out]; exact SlA.nil, hBW⟩
    · have t1 : decide ((key.size : Int) < 1) = false := by simp; omega
      have t2 : decide ((30 : Int) < key.size) = true := by simp; omega
      go_wp2_with fail
      obtain ⟨r0, r1, r2, hK, hS⟩ := box3 HG6.out (.slice none 0 0) (.slice none 0 0) (.slice none 0 0)
      have hBW := ((hB2.setCell (p := ⟨w.heap.size + 3, 0, none⟩) (by simp) (.slice none 0 0)).setCell (p := ⟨w.heap.size + 3, 1, none⟩) (by simp) (.slice none 0 0)).setCell (p := ⟨w.heap.size + 3, 2, none⟩) (by simp) (.slice none 0 0)
      refine bodyPost_ret (v := .tuple #[.agg #[.slice none 0 0, .slice none 0 0, .slice none 0 0], .int .i64 1]) (by simp [results, Tryz.results58, go_sem, r0, r1, r2]) rfl ⟨_, _, _, by rw [HE.out], by rw [HTT.out]; exact rda_nil _ _, by rw [HCC.out]; exact SlA.nil, hBW⟩
  have hkb2 : 1 ≤ key.size ∧ key.size ≤ 30 := by simpa [keyB] using kb
  have t1 : decide ((key.size : Int) < 1) = false := by simp; omega
  have t2 : decide ((30 : Int) < key.size) = false := by simp; omega
  go_wp2_with fail
  refine (conKid_any (fun y => decide (y = key)) _ _ t.ks _ w2 (HKS.out _ hB2) (updTest d0 (by omega))).mono ?_
  rintro e w3 ⟨rfl, hb3⟩
  clear c0 c1 d0 e0 e1 e2 k0 k1 k2 z0 z1 z2 HG6
  have hb3' := hid (hb2'.out.trans (hb3.mono hs2))
  obtain ⟨hB3, hs3, g3, g4, g5, g6⟩ := HW.out _ hb3'.out
  have HG6 := hid g6
  have c0 : w3.cell? ⟨w.heap.size, 0, none⟩ = some (.slice A3 t.es.length n3) := cell_cells (i := 0) g3
  have c1 : w3.cell? ⟨w.heap.size, 1, none⟩ = some (.slice A4 t.ks.length n4) := cell_cells (i := 1) g3
  have d0 : w3.cell? ⟨w.heap.size + 1, 0, none⟩ = some (.string key) := cell_cells (i := 0) g4
  have e0 : w3.cell? ⟨w.heap.size + 2, 0, none⟩ = some (.slice A5 D.es.length n5) := cell_cells (i := 0) g5
  have e1 : w3.cell? ⟨w.heap.size + 2, 1, none⟩ = some (.slice A6 D.ks.length n6) := cell_cells (i := 1) g5
  have e2 : w3.cell? ⟨w.heap.size + 2, 2, none⟩ = some (.slice A7 c.length n7) := cell_cells (i := 2) g5
  have k0 : w3.cell? ⟨w.heap.size + 3, 0, none⟩ = some (.slice none 0 0) := cell_cells (i := 0) g6
  have k1 : w3.cell? ⟨w.heap.size + 3, 1, none⟩ = some (.slice none 0 0) := cell_cells (i := 1) g6
  have k2 : w3.cell? ⟨w.heap.size + 3, 2, none⟩ = some (.slice none 0 0) := cell_cells (i := 2) g6
  have z0 := cells_frz (i := 0) g6
  have z1 := cells_frz (i := 1) g6
  have z2 := cells_frz (i := 2) g6
  clear g3 g4 g5 g6
  clear hb3
  go_wp2_with fail
  refine (tempty_any D.es.length D.ks.length A5 A6 n5 n6 w3).mono ?_
  rintro e w4 ⟨rfl, hb4⟩
  clear c0 c1 d0 e0 e1 e2 k0 k1 k2 z0 z1 z2 HG6
  have hb4' := hid (hb3'.out.trans (hb4.mono hs3))
  obtain ⟨hB4, hs4, g3, g4, g5, g6⟩ := HW.out _ hb4'.out
  have HG6 := hid g6
  have c0 : w4.cell? ⟨w.heap.size, 0, none⟩ = some (.slice A3 t.es.length n3) := cell_cells (i := 0) g3
  have c1 : w4.cell? ⟨w.heap.size, 1, none⟩ = some (.slice A4 t.ks.length n4) := cell_cells (i := 1) g3
  have d0 : w4.cell? ⟨w.heap.size + 1, 0, none⟩ = some (.string key) := cell_cells (i := 0) g4
  have e0 : w4.cell? ⟨w.heap.size + 2, 0, none⟩ = some (.slice A5 D.es.length n5) := cell_cells (i := 0) g5
  have e1 : w4.cell? ⟨w.heap.size + 2, 1, none⟩ = some (.slice A6 D.ks.length n6) := cell_cells (i := 1) g5
  have e2 : w4.cell? ⟨w.heap.size + 2, 2, none⟩ = some (.slice A7 c.length n7) := cell_cells (i := 2) g5
  have k0 : w4.cell? ⟨w.heap.size + 3, 0, none⟩ = some (.slice none 0 0) := cell_cells (i := 0) g6
  have k1 : w4.cell? ⟨w.heap.size + 3, 1, none⟩ = some (.slice none 0 0) := cell_cells (i := 1) g6
  have k2 : w4.cell? ⟨w.heap.size + 3, 2, none⟩ = some (.slice none 0 0) := cell_cells (i := 2) g6
  have z0 := cells_frz (i := 0) g6
  have z1 := cells_frz (i := 1) g6
  have z2 := cells_frz (i := 2) g6
  clear g3 g4 g5 g6
  clear hb4
  have hfi : decide ((24 : Int) ≤ (t.ks.length : Int)) = decide (24 ≤ t.ks.length) := by rw [Bool.eq_iff_iff]; simp; omega
  cases em : empB D.es.length D.ks.length
  · cases fl : decide (24 ≤ t.ks.length)
    · have HE0 : Hid (updE t key D c = wrapE D key) := by unfold Hid updE; rw [hr, hq, kb, em, fl]; simp
      rw [fl] at hfi
      clear em fl
      clear hr hq kb
      go_wp2_with fail
      refine (twrap_any D key _ _ _ _ (HD.out _ (hB4.alloc (by omega) _)) (SlP.oneB (x := key) (cs := [.string key]) ⟨rfl, hkey⟩ rfl _ rfl (by simp)) (by omega)).mono ?_
      rintro e w5 ⟨v5, u5, rfl, hrd5, hb5⟩
      obtain ⟨A8, n8, A9, n9, rfl, rfl⟩ := rda_shape hrd5
      clear c0 c1 d0 e0 e1 e2 k0 k1 k2 z0 z1 z2 HG6
      have hb5' := hid (hb4'.out.trans ((((Below.refl w4.heap.size w4).alloc (Nat.le_refl _) _).trans (hb5.mono (show w4.heap.size ≤ _ by simp))).mono hs4))
      obtain ⟨hB5, hs5, g3, g4, g5, g6⟩ := HW.out _ hb5'.out
      have HG6 := hid g6
      have c0 : w5.cell? ⟨w.heap.size, 0, none⟩ = some (.slice A3 t.es.length n3) := cell_cells (i := 0) g3
      have c1 : w5.cell? ⟨w.heap.size, 1, none⟩ = some (.slice A4 t.ks.length n4) := cell_cells (i := 1) g3
      have d0 : w5.cell? ⟨w.heap.size + 1, 0, none⟩ = some (.string key) := cell_cells (i := 0) g4
      have e0 : w5.cell? ⟨w.heap.size + 2, 0, none⟩ = some (.slice A5 D.es.length n5) := cell_cells (i := 0) g5
      have e1 : w5.cell? ⟨w.heap.size + 2, 1, none⟩ = some (.slice A6 D.ks.length n6) := cell_cells (i := 1) g5
      have e2 : w5.cell? ⟨w.heap.size + 2, 2, none⟩ = some (.slice A7 c.length n7) := cell_cells (i := 2) g5
      have k0 : w5.cell? ⟨w.heap.size + 3, 0, none⟩ = some (.slice none 0 0) := cell_cells (i := 0) g6
      have k1 : w5.cell? ⟨w.heap.size + 3, 1, none⟩ = some (.slice none 0 0) := cell_cells (i := 1) g6
      have k2 : w5.cell? ⟨w.heap.size + 3, 2, none⟩ = some (.slice none 0 0) := cell_cells (i := 2) g6
      have z0 := cells_frz (i := 0) g6
      have z1 := cells_frz (i := 1) g6
      have z2 := cells_frz (i := 2) g6
      clear g3 g4 g5 g6
      have hs5' := hb5.size
      simp only [World.size_alloc] at hs5'
      clear hb5
      have hlt3 : w.heap.size + 3 < w5.heap.size := by omega
      have hne3 : w.heap.size + 3 ≠ w5.heap.size := by omega
      have hlt2 : w.heap.size + 2 < w5.heap.size := by omega
      have hne2 : w.heap.size + 2 ≠ w5.heap.size := by omega
      have hw3 : wrapE D key = 0 ∨ wrapE D key = 1 ∨ wrapE D key = 10 := by unfold wrapE; split <;> (try split) <;> simp
      have HTX : Hid (updT t key D c = if wrapE D key = 0 then wrapT D key else .mk [] []) := by unfold Hid updT; rw [HE0.out]
      have HCX : Hid (updC t key D c = if wrapE D key = 0 then c else []) := by unfold Hid updC; rw [HE0.out]
      rw [HE0.out]
      generalize wrapE D key = K at *
      generalize wrapT D key = T at *
      rcases hw3 with rfl | rfl | rfl
      · have HX : Hid (∀ w', Below (w5.heap.size + 1) (w5.alloc (.cells #[.slice A8 T.es.length n8, .slice A9 T.ks.length n9] 27)) w' → Below w5.heap.size w5 w' ∧ (w'.cell? ⟨w.heap.size + 2, 2, none⟩ = some (.slice A7 c.length n7) ∧ w'.cell? ⟨w5.heap.size, 0, none⟩ = some (.slice A8 T.es.length n8) ∧ w'.cell? ⟨w5.heap.size, 1, none⟩ = some (.slice A9 T.ks.length n9))) := fun w' hb => by
          have hB : Below w5.heap.size w5 w' := ((Below.refl _ w5).alloc (Nat.le_refl _) _).trans (hb.mono (by omega))
          refine ⟨hB, (hB.cell (p := ⟨w.heap.size + 2, 2, none⟩) (by show w.heap.size + 2 < _; omega)).trans e2, ?_, ?_⟩
          · rw [hb.cell (p := ⟨w5.heap.size, 0, none⟩) (by simp), World.cell?_alloc_new]; rfl
          · rw [hb.cell (p := ⟨w5.heap.size, 1, none⟩) (by simp), World.cell?_alloc_new]; rfl
        clear c0 c1 d0 e0 e1 k0 k1 k2 z0 z1 z2
        go_upto_region 9 with (fail)
        go_region_held3 (fun w' => w'.cell? ⟨w.heap.size + 2, 2, none⟩ = some (.slice A7 c.length n7) ∧ w'.cell? ⟨w5.heap.size, 0, none⟩ = some (.slice A8 T.es.length n8) ∧ w'.cell? ⟨w5.heap.size, 1, none⟩ = some (.slice A9 T.ks.length n9))
          (first | go_keep | exact (HX.out _ hbx.out).2 | exact ⟨cell_box3n (by simp) (HX.out _ hbx.out).2.1, cell_box3n (by show w.heap.size + 3 ≠ _; omega) (HX.out _ hbx.out).2.2.1, cell_box3n (by show w.heap.size + 3 ≠ _; omega) (HX.out _ hbx.out).2.2.2⟩)
          (first | (go_at_call 116; go_loud ((refine (cloneC_any c _ _ (HC.out _ ((hB5.alloc (by omega) _).drew)) (by unfold Few; omega)).mono ?_); rintro e w6 ⟨v6, rfl, ho6, hb6⟩; obtain ⟨A10, c10, hv6⟩ := ho6.shape; subst hv6; have HO6 := hid ho6; have hbx : Hid (Below (w5.heap.size + 1) (w5.alloc (.cells #[.slice A8 T.es.length n8, .slice A9 T.ks.length n9] 27)) w6) := (((Below.refl (w5.heap.size + 1) (w5.alloc (.cells #[.slice A8 T.es.length n8, .slice A9 T.ks.length n9] 27))).drew).trans (hb6.mono (by simp))); have hby := hid (HX.out _ hbx.out).1; have hs6 : w5.heap.size + 1 ≤ w6.heap.size := (by have := hbx.out.size; simpa using this); have HGx := hid ((hby.out.block (w.heap.size + 3) (by omega)).trans HG6.out); have k0 : w6.cell? ⟨w.heap.size + 3, 0, none⟩ = some (.slice none 0 0) := cell_cells (i := 0) HGx.out; have k1 : w6.cell? ⟨w.heap.size + 3, 1, none⟩ = some (.slice none 0 0) := cell_cells (i := 1) HGx.out; have k2 : w6.cell? ⟨w.heap.size + 3, 2, none⟩ = some (.slice none 0 0) := cell_cells (i := 2) HGx.out; have z0 := cells_frz (i := 0) HGx.out; have z1 := cells_frz (i := 1) HGx.out; have z2 := cells_frz (i := 2) HGx.out; have hlt6 : w.heap.size + 3 < w6.heap.size := (by omega); have hne6 : w.heap.size + 3 ≠ w6.heap.size := (by omega); clear ho6 hb6)))
        all_goals go_wp2_with fail
        obtain ⟨r0, r1, r2, hK, hS⟩ := box3 HGx.out (.slice A8 T.es.length n8) (.slice A9 T.ks.length n9) (.slice A10 c.length c10)
        have hBW : Below w.heap.size w (((w6.setCell ⟨w.heap.size + 3, 0, none⟩ (.slice A8 T.es.length n8)).setCell ⟨w.heap.size + 3, 1, none⟩ (.slice A9 T.ks.length n9)).setCell ⟨w.heap.size + 3, 2, none⟩ (.slice A10 c.length c10)) := (((hB5.trans (hby.out.mono (by omega))).setCell (by simp) _).setCell (by simp) _).setCell (by simp) _
        clear k0 k1 k2 z0 z1 z2
        generalize (((w6.setCell ⟨w.heap.size + 3, 0, none⟩ (.slice A8 T.es.length n8)).setCell ⟨w.heap.size + 3, 1, none⟩ (.slice A9 T.ks.length n9)).setCell ⟨w.heap.size + 3, 2, none⟩ (.slice A10 c.length c10)) = W at *
        refine bodyPost_ret (v := .tuple #[.agg #[.slice A8 T.es.length n8, .slice A9 T.ks.length n9, .slice A10 c.length c10], .int .i64 0]) (by simp [results, Tryz.results58, go_sem, r0, r1, r2]) rfl ⟨_, _, _, by rw [HE0.out], ?_, ?_, hBW⟩
        · rw [HTX.out, if_pos trivial]
          exact rda_up (fun b hb => (hK b (by have := hb.1; simp only [World.size_alloc] at this; omega)).trans (hby.out.block b hb.2)) (fun b hb => ⟨by have := hb.1; simp only [World.size_alloc] at this; omega, by have := hb.2; omega⟩) _ _ _ hrd5
        · rw [HCX.out, if_pos trivial]
          refine (HO6.out.sla (by unfold Big; omega)).up (fun b hb => hK b (by have := hb.1; simp only [World.size_alloc, World.size_drew] at this; omega)) (fun b hb => ⟨by have := hb.1; simp only [World.size_alloc, World.size_drew] at this; omega, by have := hb.2.1; omega⟩) (fun _ _ _ h => h)
      · go_wp2_with fail
        obtain ⟨r0, r1, r2, hK, hS⟩ := box3 HG6.out (.slice none 0 0) (.slice none 0 0) (.slice none 0 0)
        have hBW : Below w.heap.size w (((w5.setCell ⟨w.heap.size + 3, 0, none⟩ (.slice none 0 0)).setCell ⟨w.heap.size + 3, 1, none⟩ (.slice none 0 0)).setCell ⟨w.heap.size + 3, 2, none⟩ (.slice none 0 0)) := ((hB5.setCell (by simp) _).setCell (by simp) _).setCell (by simp) _
        clear c0 c1 d0 e0 e1 e2 k0 k1 k2 z0 z1 z2
        generalize (((w5.setCell ⟨w.heap.size + 3, 0, none⟩ (.slice none 0 0)).setCell ⟨w.heap.size + 3, 1, none⟩ (.slice none 0 0)).setCell ⟨w.heap.size + 3, 2, none⟩ (.slice none 0 0)) = W at *
        have q0 : (W.alloc (.cells #[.slice A8 T.es.length n8, .slice A9 T.ks.length n9] 27)).cell? ⟨w.heap.size + 1 + 1 + 1, 0, none⟩ = some (.slice none 0 0) := by rw [World.cell?_alloc_lt _ _ _ (by show w.heap.size + 3 < _; omega)]; exact r0
        have q1 : (W.alloc (.cells #[.slice A8 T.es.length n8, .slice A9 T.ks.length n9] 27)).cell? ⟨w.heap.size + 1 + 1 + 1, 1, none⟩ = some (.slice none 0 0) := by rw [World.cell?_alloc_lt _ _ _ (by show w.heap.size + 3 < _; omega)]; exact r1
        have q2 : (W.alloc (.cells #[.slice A8 T.es.length n8, .slice A9 T.ks.length n9] 27)).cell? ⟨w.heap.size + 1 + 1 + 1, 2, none⟩ = some (.slice none 0 0) := by rw [World.cell?_alloc_lt _ _ _ (by show w.heap.size + 3 < _; omega)]; exact r2
        refine bodyPost_ret (v := .tuple #[.agg #[.slice none 0 0, .slice none 0 0, .slice none 0 0], .int .i64 1]) (by simp [results, Tryz.results58, go_sem, q0, q1, q2]) rfl ⟨_, _, _, by rw [HE0.out], by rw [HTX.out, if_neg (by decide)]; exact rda_nil _ _, by rw [HCX.out, if_neg (by decide)]; exact SlA.nil, hBW.alloc (by omega) _⟩
      · go_wp2_with fail
        obtain ⟨r0, r1, r2, hK, hS⟩ := box3 HG6.out (.slice none 0 0) (.slice none 0 0) (.slice none 0 0)
        have hBW : Below w.heap.size w (((w5.setCell ⟨w.heap.size + 3, 0, none⟩ (.slice none 0 0)).setCell ⟨w.heap.size + 3, 1, none⟩ (.slice none 0 0)).setCell ⟨w.heap.size + 3, 2, none⟩ (.slice none 0 0)) := ((hB5.setCell (by simp) _).setCell (by simp) _).setCell (by simp) _
        clear c0 c1 d0 e0 e1 e2 k0 k1 k2 z0 z1 z2
        generalize (((w5.setCell ⟨w.heap.size + 3, 0, none⟩ (.slice none 0 0)).setCell ⟨w.heap.size + 3, 1, none⟩ (.slice none 0 0)).setCell ⟨w.heap.size + 3, 2, none⟩ (.slice none 0 0)) = W at *
        have q0 : (W.alloc (.cells #[.slice A8 T.es.length n8, .slice A9 T.ks.length n9] 27)).cell? ⟨w.heap.size + 1 + 1 + 1, 0, none⟩ = some (.slice none 0 0) := by rw [World.cell?_alloc_lt _ _ _ (by show w.heap.size + 3 < _; omega)]; exact r0
        have q1 : (W.alloc (.cells #[.slice A8 T.es.length n8, .slice A9 T.ks.length n9] 27)).cell? ⟨w.heap.size + 1 + 1 + 1, 1, none⟩ = some (.slice none 0 0) := by rw [World.cell?_alloc_lt _ _ _ (by show w.heap.size + 3 < _; omega)]; exact r1
        have q2 : (W.alloc (.cells #[.slice A8 T.es.length n8, .slice A9 T.ks.length n9] 27)).cell? ⟨w.heap.size + 1 + 1 + 1, 2, none⟩ = some (.slice none 0 0) := by rw [World.cell?_alloc_lt _ _ _ (by show w.heap.size + 3 < _; omega)]; exact r2
        refine bodyPost_ret (v := .tuple #[.agg #[.slice none 0 0, .slice none 0 0, .slice none 0 0], .int .i64 10]) (by simp [results, Tryz.results58, go_sem, q0, q1, q2]) rfl ⟨_, _, _, by rw [HE0.out], by rw [HTX.out, if_neg (by decide)]; exact rda_nil _ _, by rw [HCX.out, if_neg (by decide)]; exact SlA.nil, hBW.alloc (by omega) _⟩
    · rw [fl] at hfi
      cases an : (t.ks.any fun y => decide (y.1 = key))
      · have HE : Hid (updE t key D c = 4) := by unfold Hid updE; rw [hr, hq, kb, em, fl, an]; rfl
        have HTT : Hid (updT t key D c = .mk [] []) := by unfold Hid updT; rw [HE.out]; rfl
        have HCC : Hid (updC t key D c = []) := by unfold Hid updC; rw [HE.out]; rfl
        clear hr hq kb em fl an
        go_wp2_with fail
        obtain ⟨r0, r1, r2, hK, hS⟩ := box3 HG6.out (.slice none 0 0) (.slice none 0 0) (.slice none 0 0)
        have hBW := ((hB4.setCell (p := ⟨w.heap.size + 3, 0, none⟩) (by simp) (.slice none 0 0)).setCell (p := ⟨w.heap.size + 3, 1, none⟩) (by simp) (.slice none 0 0)).setCell (p := ⟨w.heap.size + 3, 2, none⟩) (by simp) (.slice none 0 0)
        refine bodyPost_ret (v := .tuple #[.agg #[.slice none 0 0, .slice none 0 0, .slice none 0 0], .int .i64 4]) (by simp [results, Tryz.results58, go_sem, r0, r1, r2]) rfl ⟨_, _, _, by rw [HE.out], by rw [HTT.out]; exact rda_nil _ _, by rw [HCC.out]; exact SlA.nil, hBW⟩
      · have HE0 : Hid (updE t key D c = wrapE D key) := by unfold Hid updE; rw [hr, hq, kb, em, fl, an]; simp
        clear em fl an
        clear hr hq kb
        go_wp2_with fail
        refine (twrap_any D key _ _ _ _ (HD.out _ (hB4.alloc (by omega) _)) (SlP.oneB (x := key) (cs := [.string key]) ⟨rfl, hkey⟩ rfl _ rfl (by simp)) (by omega)).mono ?_
        rintro e w5 ⟨v5, u5, rfl, hrd5, hb5⟩
        obtain ⟨A8, n8, A9, n9, rfl, rfl⟩ := rda_shape hrd5
        clear c0 c1 d0 e0 e1 e2 k0 k1 k2 z0 z1 z2 HG6
        have hb5' := hid (hb4'.out.trans ((((Below.refl w4.heap.size w4).alloc (Nat.le_refl _) _).trans (hb5.mono (show w4.heap.size ≤ _ by simp))).mono hs4))
        obtain ⟨hB5, hs5, g3, g4, g5, g6⟩ := HW.out _ hb5'.out
        have HG6 := hid g6
        have c0 : w5.cell? ⟨w.heap.size, 0, none⟩ = some (.slice A3 t.es.length n3) := cell_cells (i := 0) g3
        have c1 : w5.cell? ⟨w.heap.size, 1, none⟩ = some (.slice A4 t.ks.length n4) := cell_cells (i := 1) g3
        have d0 : w5.cell? ⟨w.heap.size + 1, 0, none⟩ = some (.string key) := cell_cells (i := 0) g4
        have e0 : w5.cell? ⟨w.heap.size + 2, 0, none⟩ = some (.slice A5 D.es.length n5) := cell_cells (i := 0) g5
        have e1 : w5.cell? ⟨w.heap.size + 2, 1, none⟩ = some (.slice A6 D.ks.length n6) := cell_cells (i := 1) g5
        have e2 : w5.cell? ⟨w.heap.size + 2, 2, none⟩ = some (.slice A7 c.length n7) := cell_cells (i := 2) g5
        have k0 : w5.cell? ⟨w.heap.size + 3, 0, none⟩ = some (.slice none 0 0) := cell_cells (i := 0) g6
        have k1 : w5.cell? ⟨w.heap.size + 3, 1, none⟩ = some (.slice none 0 0) := cell_cells (i := 1) g6
        have k2 : w5.cell? ⟨w.heap.size + 3, 2, none⟩ = some (.slice none 0 0) := cell_cells (i := 2) g6
        have z0 := cells_frz (i := 0) g6
        have z1 := cells_frz (i := 1) g6
        have z2 := cells_frz (i := 2) g6
        clear g3 g4 g5 g6
        have hs5' := hb5.size
        simp only [World.size_alloc] at hs5'
        clear hb5
        have hlt3 : w.heap.size + 3 < w5.heap.size := by omega
        have hne3 : w.heap.size + 3 ≠ w5.heap.size := by omega
        have hlt2 : w.heap.size + 2 < w5.heap.size := by omega
        have hne2 : w.heap.size + 2 ≠ w5.heap.size := by omega
        have hw3 : wrapE D key = 0 ∨ wrapE D key = 1 ∨ wrapE D key = 10 := by unfold wrapE; split <;> (try split) <;> simp
        have HTX : Hid (updT t key D c = if wrapE D key = 0 then wrapT D key else .mk [] []) := by unfold Hid updT; rw [HE0.out]
        have HCX : Hid (updC t key D c = if wrapE D key = 0 then c else []) := by unfold Hid updC; rw [HE0.out]
        rw [HE0.out]
        generalize wrapE D key = K at *
        generalize wrapT D key = T at *
        rcases hw3 with rfl | rfl | rfl
        · have HX : Hid (∀ w', Below (w5.heap.size + 1) (w5.alloc (.cells #[.slice A8 T.es.length n8, .slice A9 T.ks.length n9] 27)) w' → Below w5.heap.size w5 w' ∧ (w'.cell? ⟨w.heap.size + 2, 2, none⟩ = some (.slice A7 c.length n7) ∧ w'.cell? ⟨w5.heap.size, 0, none⟩ = some (.slice A8 T.es.length n8) ∧ w'.cell? ⟨w5.heap.size, 1, none⟩ = some (.slice A9 T.ks.length n9))) := fun w' hb => by
            have hB : Below w5.heap.size w5 w' := ((Below.refl _ w5).alloc (Nat.le_refl _) _).trans (hb.mono (by omega))
            refine ⟨hB, (hB.cell (p := ⟨w.heap.size + 2, 2, none⟩) (by show w.heap.size + 2 < _; omega)).trans e2, ?_, ?_⟩
            · rw [hb.cell (p := ⟨w5.heap.size, 0, none⟩) (by simp), World.cell?_alloc_new]; rfl
            · rw [hb.cell (p := ⟨w5.heap.size, 1, none⟩) (by simp), World.cell?_alloc_new]; rfl
          clear c0 c1 d0 e0 e1 k0 k1 k2 z0 z1 z2
          go_upto_region 9 with (fail)
          go_region_held3 (fun w' => w'.cell? ⟨w.heap.size + 2, 2, none⟩ = some (.slice A7 c.length n7) ∧ w'.cell? ⟨w5.heap.size, 0, none⟩ = some (.slice A8 T.es.length n8) ∧ w'.cell? ⟨w5.heap.size, 1, none⟩ = some (.slice A9 T.ks.length n9))
            (first | go_keep | exact (HX.out _ hbx.out).2 | exact ⟨cell_box3n (by simp) (HX.out _ hbx.out).2.1, cell_box3n (by show w.heap.size + 3 ≠ _; omega) (HX.out _ hbx.out).2.2.1, cell_box3n (by show w.heap.size + 3 ≠ _; omega) (HX.out _ hbx.out).2.2.2⟩)
            (first | (go_at_call 116; go_loud ((refine (cloneC_any c _ _ (HC.out _ ((hB5.alloc (by omega) _).drew)) (by unfold Few; omega)).mono ?_); rintro e w6 ⟨v6, rfl, ho6, hb6⟩; obtain ⟨A10, c10, hv6⟩ := ho6.shape; subst hv6; have HO6 := hid ho6; have hbx : Hid (Below (w5.heap.size + 1) (w5.alloc (.cells #[.slice A8 T.es.length n8, .slice A9 T.ks.length n9] 27)) w6) := (((Below.refl (w5.heap.size + 1) (w5.alloc (.cells #[.slice A8 T.es.length n8, .slice A9 T.ks.length n9] 27))).drew).trans (hb6.mono (by simp))); have hby := hid (HX.out _ hbx.out).1; have hs6 : w5.heap.size + 1 ≤ w6.heap.size := (by have := hbx.out.size; simpa using this); have HGx := hid ((hby.out.block (w.heap.size + 3) (by omega)).trans HG6.out); have k0 : w6.cell? ⟨w.heap.size + 3, 0, none⟩ = some (.slice none 0 0) := cell_cells (i := 0) HGx.out; have k1 : w6.cell? ⟨w.heap.size + 3, 1, none⟩ = some (.slice none 0 0) := cell_cells (i := 1) HGx.out; have k2 : w6.cell? ⟨w.heap.size + 3, 2, none⟩ = some (.slice none 0 0) := cell_cells (i := 2) HGx.out; have z0 := cells_frz (i := 0) HGx.out; have z1 := cells_frz (i := 1) HGx.out; have z2 := cells_frz (i := 2) HGx.out; have hlt6 : w.heap.size + 3 < w6.heap.size := (by omega); have hne6 : w.heap.size + 3 ≠ w6.heap.size := (by omega); clear ho6 hb6)))
          all_goals go_wp2_with fail
          obtain ⟨r0, r1, r2, hK, hS⟩ := box3 HGx.out (.slice A8 T.es.length n8) (.slice A9 T.ks.length n9) (.slice A10 c.length c10)
          have hBW : Below w.heap.size w (((w6.setCell ⟨w.heap.size + 3, 0, none⟩ (.slice A8 T.es.length n8)).setCell ⟨w.heap.size + 3, 1, none⟩ (.slice A9 T.ks.length n9)).setCell ⟨w.heap.size + 3, 2, none⟩ (.slice A10 c.length c10)) := (((hB5.trans (hby.out.mono (by omega))).setCell (by simp) _).setCell (by simp) _).setCell (by simp) _
          clear k0 k1 k2 z0 z1 z2
          generalize (((w6.setCell ⟨w.heap.size + 3, 0, none⟩ (.slice A8 T.es.length n8)).setCell ⟨w.heap.size + 3, 1, none⟩ (.slice A9 T.ks.length n9)).setCell ⟨w.heap.size + 3, 2, none⟩ (.slice A10 c.length c10)) = W at *
          refine bodyPost_ret (v := .tuple #[.agg #[.slice A8 T.es.length n8, .slice A9 T.ks.length n9, .slice A10 c.length c10], .int .i64 0]) (by simp [results, Tryz.results58, go_sem, r0, r1, r2]) rfl ⟨_, _, _, by rw [HE0.out], ?_, ?_, hBW⟩
          · rw [HTX.out, if_pos trivial]
            exact rda_up (fun b hb => (hK b (by have := hb.1; simp only [World.size_alloc] at this; omega)).trans (hby.out.block b hb.2)) (fun b hb => ⟨by have := hb.1; simp only [World.size_alloc] at this; omega, by have := hb.2; omega⟩) _ _ _ hrd5
          · rw [HCX.out, if_pos trivial]
            refine (HO6.out.sla (by unfold Big; omega)).up (fun b hb => hK b (by have := hb.1; simp only [World.size_alloc, World.size_drew] at this; omega)) (fun b hb => ⟨by have := hb.1; simp only [World.size_alloc, World.size_drew] at this; omega, by have := hb.2.1; omega⟩) (fun _ _ _ h => h)
        · go_wp2_with fail
          obtain ⟨r0, r1, r2, hK, hS⟩ := box3 HG6.out (.slice none 0 0) (.slice none 0 0) (.slice none 0 0)
          have hBW : Below w.heap.size w (((w5.setCell ⟨w.heap.size + 3, 0, none⟩ (.slice none 0 0)).setCell ⟨w.heap.size + 3, 1, none⟩ (.slice none 0 0)).setCell ⟨w.heap.size + 3, 2, none⟩ (.slice none 0 0)) := ((hB5.setCell (by simp) _).setCell (by simp) _).setCell (by simp) _
          clear c0 c1 d0 e0 e1 e2 k0 k1 k2 z0 z1 z2
          generalize (((w5.setCell ⟨w.heap.size + 3, 0, none⟩ (.slice none 0 0)).setCell ⟨w.heap.size + 3, 1, none⟩ (.slice none 0 0)).setCell ⟨w.heap.size + 3, 2, none⟩ (.slice none 0 0)) = W at *
          have q0 : (W.alloc (.cells #[.slice A8 T.es.length n8, .slice A9 T.ks.length n9] 27)).cell? ⟨w.heap.size + 1 + 1 + 1, 0, none⟩ = some (.slice none 0 0) := by rw [World.cell?_alloc_lt _ _ _ (by show w.heap.size + 3 < _; omega)]; exact r0
          have q1 : (W.alloc (.cells #[.slice A8 T.es.length n8, .slice A9 T.ks.length n9] 27)).cell? ⟨w.heap.size + 1 + 1 + 1, 1, none⟩ = some (.slice none 0 0) := by rw [World.cell?_alloc_lt _ _ _ (by show w.heap.size + 3 < _; omega)]; exact r1
          have q2 : (W.alloc (.cells #[.slice A8 T.es.length n8, .slice A9 T.ks.length n9] 27)).cell? ⟨w.heap.size + 1 + 1 + 1, 2, none⟩ = some (.slice none 0 0) := by rw [World.cell?_alloc_lt _ _ _ (by show w.heap.size + 3 < _; omega)]; exact r2
          refine bodyPost_ret (v := .tuple #[.agg #[.slice none 0 0, .slice none 0 0, .slice none 0 0], .int .i64 1]) (by simp [results, Tryz.results58, go_sem, q0, q1, q2]) rfl ⟨_, _, _, by rw [HE0.out], by rw [HTX.out, if_neg (by decide)]; exact rda_nil _ _, by rw [HCX.out, if_neg (by decide)]; exact SlA.nil, hBW.alloc (by omega) _⟩
        · go_wp2_with fail
          obtain ⟨r0, r1, r2, hK, hS⟩ := box3 HG6.out (.slice none 0 0) (.slice none 0 0) (.slice none 0 0)
          have hBW : Below w.heap.size w (((w5.setCell ⟨w.heap.size + 3, 0, none⟩ (.slice none 0 0)).setCell ⟨w.heap.size + 3, 1, none⟩ (.slice none 0 0)).setCell ⟨w.heap.size + 3, 2, none⟩ (.slice none 0 0)) := ((hB5.setCell (by simp) _).setCell (by simp) _).setCell (by simp) _
          clear c0 c1 d0 e0 e1 e2 k0 k1 k2 z0 z1 z2
          generalize (((w5.setCell ⟨w.heap.size + 3, 0, none⟩ (.slice none 0 0)).setCell ⟨w.heap.size + 3, 1, none⟩ (.slice none 0 0)).setCell ⟨w.heap.size + 3, 2, none⟩ (.slice none 0 0)) = W at *
          have q0 : (W.alloc (.cells #[.slice A8 T.es.length n8, .slice A9 T.ks.length n9] 27)).cell? ⟨w.heap.size + 1 + 1 + 1, 0, none⟩ = some (.slice none 0 0) := by rw [World.cell?_alloc_lt _ _ _ (by show w.heap.size + 3 < _; omega)]; exact r0
          have q1 : (W.alloc (.cells #[.slice A8 T.es.length n8, .slice A9 T.ks.length n9] 27)).cell? ⟨w.heap.size + 1 + 1 + 1, 1, none⟩ = some (.slice none 0 0) := by rw [World.cell?_alloc_lt _ _ _ (by show w.heap.size + 3 < _; omega)]; exact r1
          have q2 : (W.alloc (.cells #[.slice A8 T.es.length n8, .slice A9 T.ks.length n9] 27)).cell? ⟨w.heap.size + 1 + 1 + 1, 2, none⟩ = some (.slice none 0 0) := by rw [World.cell?_alloc_lt _ _ _ (by show w.heap.size + 3 < _; omega)]; exact r2
          refine bodyPost_ret (v := .tuple #[.agg #[.slice none 0 0, .slice none 0 0, .slice none 0 0], .int .i64 10]) (by simp [results, Tryz.results58, go_sem, q0, q1, q2]) rfl ⟨_, _, _, by rw [HE0.out], by rw [HTX.out, if_neg (by decide)]; exact rda_nil _ _, by rw [HCX.out, if_neg (by decide)]; exact SlA.nil, hBW.alloc (by omega) _⟩
  · have HE0 : Hid (updE t key D c = wrapE D key) := by unfold Hid updE; rw [hr, hq, kb, em]; simp
    clear em
    clear hr hq kb
    go_wp2_with fail
    refine (twrap_any D key _ _ _ _ (HD.out _ (hB4.alloc (by omega) _)) (SlP.oneB (x := key) (cs := [.string key]) ⟨rfl, hkey⟩ rfl _ rfl (by simp)) (by omega)).mono ?_
    rintro e w5 ⟨v5, u5, rfl, hrd5, hb5⟩
    obtain ⟨A8, n8, A9, n9, rfl, rfl⟩ := rda_shape hrd5
    clear c0 c1 d0 e0 e1 e2 k0 k1 k2 z0 z1 z2 HG6
    have hb5' := hid (hb4'.out.trans ((((Below.refl w4.heap.size w4).alloc (Nat.le_refl _) _).trans (hb5.mono (show w4.heap.size ≤ _ by simp))).mono hs4))
    obtain ⟨hB5, hs5, g3, g4, g5, g6⟩ := HW.out _ hb5'.out
    have HG6 := hid g6
    have c0 : w5.cell? ⟨w.heap.size, 0, none⟩ = some (.slice A3 t.es.length n3) := cell_cells (i := 0) g3
    have c1 : w5.cell? ⟨w.heap.size, 1, none⟩ = some (.slice A4 t.ks.length n4) := cell_cells (i := 1) g3
    have d0 : w5.cell? ⟨w.heap.size + 1, 0, none⟩ = some (.string key) := cell_cells (i := 0) g4
    have e0 : w5.cell? ⟨w.heap.size + 2, 0, none⟩ = some (.slice A5 D.es.length n5) := cell_cells (i := 0) g5
    have e1 : w5.cell? ⟨w.heap.size + 2, 1, none⟩ = some (.slice A6 D.ks.length n6) := cell_cells (i := 1) g5
    have e2 : w5.cell? ⟨w.heap.size + 2, 2, none⟩ = some (.slice A7 c.length n7) := cell_cells (i := 2) g5
    have k0 : w5.cell? ⟨w.heap.size + 3, 0, none⟩ = some (.slice none 0 0) := cell_cells (i := 0) g6
    have k1 : w5.cell? ⟨w.heap.size + 3, 1, none⟩ = some (.slice none 0 0) := cell_cells (i := 1) g6
    have k2 : w5.cell? ⟨w.heap.size + 3, 2, none⟩ = some (.slice none 0 0) := cell_cells (i := 2) g6
    have z0 := cells_frz (i := 0) g6
    have z1 := cells_frz (i := 1) g6
    have z2 := cells_frz (i := 2) g6
    clear g3 g4 g5 g6
    have hs5' := hb5.size
    simp only [World.size_alloc] at hs5'
    clear hb5
    have hlt3 : w.heap.size + 3 < w5.heap.size := by omega
    have hne3 : w.heap.size + 3 ≠ w5.heap.size := by omega
    have hlt2 : w.heap.size + 2 < w5.heap.size := by omega
    have hne2 : w.heap.size + 2 ≠ w5.heap.size := by omega
    have hw3 : wrapE D key = 0 ∨ wrapE D key = 1 ∨ wrapE D key = 10 := by unfold wrapE; split <;> (try split) <;> simp
    have HTX : Hid (updT t key D c = if wrapE D key = 0 then wrapT D key else .mk [] []) := by unfold Hid updT; rw [HE0.out]
    have HCX : Hid (updC t key D c = if wrapE D key = 0 then c else []) := by unfold Hid updC; rw [HE0.out]
    rw [HE0.out]
    generalize wrapE D key = K at *
    generalize wrapT D key = T at *
    rcases hw3 with rfl | rfl | rfl
    · have HX : Hid (∀ w', Below (w5.heap.size + 1) (w5.alloc (.cells #[.slice A8 T.es.length n8, .slice A9 T.ks.length n9] 27)) w' → Below w5.heap.size w5 w' ∧ (w'.cell? ⟨w.heap.size + 2, 2, none⟩ = some (.slice A7 c.length n7) ∧ w'.cell? ⟨w5.heap.size, 0, none⟩ = some (.slice A8 T.es.length n8) ∧ w'.cell? ⟨w5.heap.size, 1, none⟩ = some (.slice A9 T.ks.length n9))) := fun w' hb => by
        have hB : Below w5.heap.size w5 w' := ((Below.refl _ w5).alloc (Nat.le_refl _) _).trans (hb.mono (by omega))
        refine ⟨hB, (hB.cell (p := ⟨w.heap.size + 2, 2, none⟩) (by show w.heap.size + 2 < _; omega)).trans e2, ?_, ?_⟩
        · rw [hb.cell (p := ⟨w5.heap.size, 0, none⟩) (by simp), World.cell?_alloc_new]; rfl
        · rw [hb.cell (p := ⟨w5.heap.size, 1, none⟩) (by simp), World.cell?_alloc_new]; rfl
      clear c0 c1 d0 e0 e1 k0 k1 k2 z0 z1 z2
      go_upto_region 9 with (fail)
      go_region_held3 (fun w' => w'.cell? ⟨w.heap.size + 2, 2, none⟩ = some (.slice A7 c.length n7) ∧ w'.cell? ⟨w5.heap.size, 0, none⟩ = some (.slice A8 T.es.length n8) ∧ w'.cell? ⟨w5.heap.size, 1, none⟩ = some (.slice A9 T.ks.length n9))
        (first | go_keep | exact (HX.out _ hbx.out).2 | exact ⟨cell_box3n (by simp) (HX.out _ hbx.out).2.1, cell_box3n (by show w.heap.size + 3 ≠ _; omega) (HX.out _ hbx.out).2.2.1, cell_box3n (by show w.heap.size + 3 ≠ _; omega) (HX.out _ hbx.out).2.2.2⟩)
        (first | (go_at_call 116; go_loud ((refine (cloneC_any c _ _ (HC.out _ ((hB5.alloc (by omega) _).drew)) (by unfold Few; omega)).mono ?_); rintro e w6 ⟨v6, rfl, ho6, hb6⟩; obtain ⟨A10, c10, hv6⟩ := ho6.shape; subst hv6; have HO6 := hid ho6; have hbx : Hid (Below (w5.heap.size + 1) (w5.alloc (.cells #[.slice A8 T.es.length n8, .slice A9 T.ks.length n9] 27)) w6) := (((Below.refl (w5.heap.size + 1) (w5.alloc (.cells #[.slice A8 T.es.length n8, .slice A9 T.ks.length n9] 27))).drew).trans (hb6.mono (by simp))); have hby := hid (HX.out _ hbx.out).1; have hs6 : w5.heap.size + 1 ≤ w6.heap.size := (by have := hbx.out.size; simpa using this); have HGx := hid ((hby.out.block (w.heap.size + 3) (by omega)).trans HG6.out); have k0 : w6.cell? ⟨w.heap.size + 3, 0, none⟩ = some (.slice none 0 0) := cell_cells (i := 0) HGx.out; have k1 : w6.cell? ⟨w.heap.size + 3, 1, none⟩ = some (.slice none 0 0) := cell_cells (i := 1) HGx.out; have k2 : w6.cell? ⟨w.heap.size + 3, 2, none⟩ = some (.slice none 0 0) := cell_cells (i := 2) HGx.out; have z0 := cells_frz (i := 0) HGx.out; have z1 := cells_frz (i := 1) HGx.out; have z2 := cells_frz (i := 2) HGx.out; have hlt6 : w.heap.size + 3 < w6.heap.size := (by omega); have hne6 : w.heap.size + 3 ≠ w6.heap.size := (by omega); clear ho6 hb6)))
      all_goals go_wp2_with fail
      obtain ⟨r0, r1, r2, hK, hS⟩ := box3 HGx.out (.slice A8 T.es.length n8) (.slice A9 T.ks.length n9) (.slice A10 c.length c10)
      have hBW : Below w.heap.size w (((w6.setCell ⟨w.heap.size + 3, 0, none⟩ (.slice A8 T.es.length n8)).setCell ⟨w.heap.size + 3, 1, none⟩ (.slice A9 T.ks.length n9)).setCell ⟨w.heap.size + 3, 2, none⟩ (.slice A10 c.length c10)) := (((hB5.trans (hby.out.mono (by omega))).setCell (by simp) _).setCell (by simp) _).setCell (by simp) _
      clear k0 k1 k2 z0 z1 z2
      generalize (((w6.setCell ⟨w.heap.size + 3, 0, none⟩ (.slice A8 T.es.length n8)).setCell ⟨w.heap.size + 3, 1, none⟩ (.slice A9 T.ks.length n9)).setCell ⟨w.heap.size + 3, 2, none⟩ (.slice A10 c.length c10)) = W at *
      refine bodyPost_ret (v := .tuple #[.agg #[.slice A8 T.es.length n8, .slice A9 T.ks.length n9, .slice A10 c.length c10], .int .i64 0]) (by simp [results, Tryz.results58, go_sem, r0, r1, r2]) rfl ⟨_, _, _, by rw [HE0.out], ?_, ?_, hBW⟩
      · rw [HTX.out, if_pos trivial]
        exact rda_up (fun b hb => (hK b (by have := hb.1; simp only [World.size_alloc] at this; omega)).trans (hby.out.block b hb.2)) (fun b hb => ⟨by have := hb.1; simp only [World.size_alloc] at this; omega, by have := hb.2; omega⟩) _ _ _ hrd5
      · rw [HCX.out, if_pos trivial]
        refine (HO6.out.sla (by unfold Big; omega)).up (fun b hb => hK b (by have := hb.1; simp only [World.size_alloc, World.size_drew] at this; omega)) (fun b hb => ⟨by have := hb.1; simp only [World.size_alloc, World.size_drew] at this; omega, by have := hb.2.1; omega⟩) (fun _ _ _ h => h)
    · go_wp2_with fail
      obtain ⟨r0, r1, r2, hK, hS⟩ := box3 HG6.out (.slice none 0 0) (.slice none 0 0) (.slice none 0 0)
      have hBW : Below w.heap.size w (((w5.setCell ⟨w.heap.size + 3, 0, none⟩ (.slice none 0 0)).setCell ⟨w.heap.size + 3, 1, none⟩ (.slice none 0 0)).setCell ⟨w.heap.size + 3, 2, none⟩ (.slice none 0 0)) := ((hB5.setCell (by simp) _).setCell (by simp) _).setCell (by simp) _
      clear c0 c1 d0 e0 e1 e2 k0 k1 k2 z0 z1 z2
      generalize (((w5.setCell ⟨w.heap.size + 3, 0, none⟩ (.slice none 0 0)).setCell ⟨w.heap.size + 3, 1, none⟩ (.slice none 0 0)).setCell ⟨w.heap.size + 3, 2, none⟩ (.slice none 0 0)) = W at *
      have q0 : (W.alloc (.cells #[.slice A8 T.es.length n8, .slice A9 T.ks.length n9] 27)).cell? ⟨w.heap.size + 1 + 1 + 1, 0, none⟩ = some (.slice none 0 0) := by rw [World.cell?_alloc_lt _ _ _ (by show w.heap.size + 3 < _; omega)]; exact r0
      have q1 : (W.alloc (.cells #[.slice A8 T.es.length n8, .slice A9 T.ks.length n9] 27)).cell? ⟨w.heap.size + 1 + 1 + 1, 1, none⟩ = some (.slice none 0 0) := by rw [World.cell?_alloc_lt _ _ _ (by show w.heap.size + 3 < _; omega)]; exact r1
      have q2 : (W.alloc (.cells #[.slice A8 T.es.length n8, .slice A9 T.ks.length n9] 27)).cell? ⟨w.heap.size + 1 + 1 + 1, 2, none⟩ = some (.slice none 0 0) := by rw [World.cell?_alloc_lt _ _ _ (by show w.heap.size + 3 < _; omega)]; exact r2
      refine bodyPost_ret (v := .tuple #[.agg #[.slice none 0 0, .slice none 0 0, .slice none 0 0], .int .i64 1]) (by simp [results, Tryz.results58, go_sem, q0, q1, q2]) rfl ⟨_, _, _, by rw [HE0.out], by rw [HTX.out, if_neg (by decide)]; exact rda_nil _ _, by rw [HCX.out, if_neg (by decide)]; exact SlA.nil, hBW.alloc (by omega) _⟩
    · go_wp2_with fail
      obtain ⟨r0, r1, r2, hK, hS⟩ := box3 HG6.out (.slice none 0 0) (.slice none 0 0) (.slice none 0 0)
      have hBW : Below w.heap.size w (((w5.setCell ⟨w.heap.size + 3, 0, none⟩ (.slice none 0 0)).setCell ⟨w.heap.size + 3, 1, none⟩ (.slice none 0 0)).setCell ⟨w.heap.size + 3, 2, none⟩ (.slice none 0 0)) := ((hB5.setCell (by simp) _).setCell (by simp) _).setCell (by simp) _
      clear c0 c1 d0 e0 e1 e2 k0 k1 k2 z0 z1 z2
      generalize (((w5.setCell ⟨w.heap.size + 3, 0, none⟩ (.slice none 0 0)).setCell ⟨w.heap.size + 3, 1, none⟩ (.slice none 0 0)).setCell ⟨w.heap.size + 3, 2, none⟩ (.slice none 0 0)) = W at *
      have q0 : (W.alloc (.cells #[.slice A8 T.es.length n8, .slice A9 T.ks.length n9] 27)).cell? ⟨w.heap.size + 1 + 1 + 1, 0, none⟩ = some (.slice none 0 0) := by rw [World.cell?_alloc_lt _ _ _ (by show w.heap.size + 3 < _; omega)]; exact r0
      have q1 : (W.alloc (.cells #[.slice A8 T.es.length n8, .slice A9 T.ks.length n9] 27)).cell? ⟨w.heap.size + 1 + 1 + 1, 1, none⟩ = some (.slice none 0 0) := by rw [World.cell?_alloc_lt _ _ _ (by show w.heap.size + 3 < _; omega)]; exact r1
      have q2 : (W.alloc (.cells #[.slice A8 T.es.length n8, .slice A9 T.ks.length n9] 27)).cell? ⟨w.heap.size + 1 + 1 + 1, 2, none⟩ = some (.slice none 0 0) := by rw [World.cell?_alloc_lt _ _ _ (by show w.heap.size + 3 < _; omega)]; exact r2
      refine bodyPost_ret (v := .tuple #[.agg #[.slice none 0 0, .slice none 0 0, .slice none 0 0], .int .i64 10]) (by simp [results, Tryz.results58, go_sem, q0, q1, q2]) rfl ⟨_, _, _, by rw [HE0.out], by rw [HTX.out, if_neg (by decide)]; exact rda_nil _ _, by rw [HCX.out, if_neg (by decide)]; exact SlA.nil, hBW.alloc (by omega) _⟩
end Go.Proofs.YtmphgnjodangcaaGreat

namespace Go.Proofs.YtmphgnjodangcaaGreat
open Go.RowKit
set_option maxRecDepth 100000

/-- What context.Same tells. -/
def cSame (a b : List Sp) : Bool := apartB a && (apartB b && decide (a = b))
set_option maxHeartbeats 2000000 in
theorem cSame_any (a b : List Sp) (va vb : Value) (w : World) (ha : SlP w w.heap.size 3 SpE va a) (hb : SlP w w.heap.size 3 SpE vb b) (hN : a.length ≤ 20000) (hN' : b.length ≤ 20000) :
    Calls Tryz.prog 129 #[va, vb] w fun e w' => e = .returned (.bool (cSame a b)) ∧ Below w.heap.size w w' := by
  have HA := hid ha
  have HB := hid hb
  obtain ⟨A1, c1, rfl, _⟩ := ha
  obtain ⟨A2, c2, rfl, _⟩ := hb
  go_enter Tryz.func129, Tryz.ntmps129
  go_wp2_with fail
  refine (cright_any a _ w HA.out (by omega)).mono ?_
  rintro e w1 ⟨rfl, hb1⟩
  have hs1 := hb1.size
  cases ra : apartB a
  · have HR : Hid (cSame a b = false) := by unfold Hid cSame; rw [ra]; rfl
    clear ra
    go_wp2_with fail
    go_ret
    exact ⟨ret_bool HR.out.symm, hb1⟩
  have RA := hid ra
  go_wp2_with fail
  refine (cright_any b _ w1 (HB.out.imp hb1 hs1 fun _ _ _ h => h) (by omega)).mono ?_
  rintro e w2 ⟨rfl, hb2⟩
  have hs2 := hb2.size
  have hB2 : Below w.heap.size w w2 := hb1.trans (hb2.mono hs1)
  cases rb : apartB b
  · have HR : Hid (cSame a b = false) := by unfold Hid cSame; rw [ra, rb]; rfl
    clear ra rb
    go_wp2_with fail
    go_ret
    exact ⟨ret_bool HR.out.symm, hB2⟩
  have HR : Hid (cSame a b = decide (a = b)) := by unfold Hid cSame; rw [ra, rb]; rfl
  clear ra rb
  go_wp2_with fail
  refine (eqSps_any a b _ _ w2 _ (HA.out.imp hB2 (by omega) fun _ _ _ h => h) (HB.out.imp hB2 (by omega) fun _ _ _ h => h)).mono ?_
  rintro e w3 ⟨rfl, q, rfl⟩
  go_wp2_with fail
  go_ret
  exact ⟨ret_bool HR.out.symm, below_drewN hB2 q⟩
end Go.Proofs.YtmphgnjodangcaaGreat

namespace Go.Proofs.YtmphgnjodangcaaGreat
open Go.RowKit
set_option maxRecDepth 100000

/-- What causal.Same tells. -/
noncomputable def kSame (a b : Tr) (ca cb : List Sp) : Bool := caR a ca && (caR b cb && (trEq a b && decide (ca = cb)))
set_option maxHeartbeats 4000000 in
theorem csame_any (ca cb : List Sp) (a b : Tr) (va ka vb kb vca vcb : Value) (w : World) (ha : a.rd w w.heap.size va ka) (hb : b.rd w w.heap.size vb kb) (hca : SlP w w.heap.size 3 SpE vca ca) (hcb : SlP w w.heap.size 3 SpE vcb cb) (hza : a.sz ≤ 4000) (hzb : b.sz ≤ 4000) (hN1 : ca.length ≤ 20000) (hN2 : cb.length ≤ 20000) :
    Calls Tryz.prog 47 #[.agg #[va, ka, vca], .agg #[vb, kb, vcb]] w fun e w' => e = .returned (.bool (kSame a b ca cb)) ∧ Below w.heap.size w w' := by
  have HA : Hid (∀ w', Below w.heap.size w w' → a.rd w' w'.heap.size va ka) := fun w' hb => rd_below hb hb.size _ _ _ ha
  have HB : Hid (∀ w', Below w.heap.size w w' → b.rd w' w'.heap.size vb kb) := fun w' hb' => rd_below hb' hb'.size _ _ _ hb
  have HCA : Hid (∀ w', Below w.heap.size w w' → SlP w' w'.heap.size 3 SpE vca ca) := fun w' hb => hca.imp hb hb.size fun _ _ _ h => h
  have HCB : Hid (∀ w', Below w.heap.size w w' → SlP w' w'.heap.size 3 SpE vcb cb) := fun w' hb => hcb.imp hb hb.size fun _ _ _ h => h
  obtain ⟨A1, n1, A2, n2, rfl, rfl⟩ := rd_shape ha
  obtain ⟨A3, n3, A4, n4, rfl, rfl⟩ := rd_shape hb
  obtain ⟨A5, n5, rfl, _⟩ := hca
  obtain ⟨A6, n6, rfl, _⟩ := hcb
  have HX : Hid (∀ W, Below (w.heap.size + 2) ((w.alloc (.cells #[.slice A1 a.es.length n1, .slice A2 a.ks.length n2, .slice A5 ca.length n5] 31)).alloc (.cells #[.slice A3 b.es.length n3, .slice A4 b.ks.length n4, .slice A6 cb.length n6] 31)) W → (Below w.heap.size w W ∧ w.heap.size + 2 ≤ (W).heap.size ∧ a.rd W (W).heap.size (.slice A1 a.es.length n1) (.slice A2 a.ks.length n2) ∧ SlP W (W).heap.size 3 SpE (.slice A5 ca.length n5) ca ∧ b.rd W (W).heap.size (.slice A3 b.es.length n3) (.slice A4 b.ks.length n4) ∧ SlP W (W).heap.size 3 SpE (.slice A6 cb.length n6) cb ∧ (W).cell? ⟨w.heap.size, 0, none⟩ = some (.slice A1 a.es.length n1) ∧ (W).cell? ⟨w.heap.size, 1, none⟩ = some (.slice A2 a.ks.length n2) ∧ (W).cell? ⟨w.heap.size, 2, none⟩ = some (.slice A5 ca.length n5) ∧ (W).cell? ⟨w.heap.size + 1, 0, none⟩ = some (.slice A3 b.es.length n3) ∧ (W).cell? ⟨w.heap.size + 1, 1, none⟩ = some (.slice A4 b.ks.length n4) ∧ (W).cell? ⟨w.heap.size + 1, 2, none⟩ = some (.slice A6 cb.length n6))) := fun W hW => by
    have g0 : W.heap[w.heap.size]? = some (.cells #[.slice A1 a.es.length n1, .slice A2 a.ks.length n2, .slice A5 ca.length n5] 31 (0, 0)) := (hW.block _ (by omega)).trans ((heap_old (by simp)).trans (heap_new rfl))
    have g1 : W.heap[w.heap.size + 1]? = some (.cells #[.slice A3 b.es.length n3, .slice A4 b.ks.length n4, .slice A6 cb.length n6] 31 (0, 0)) := (hW.block _ (by omega)).trans (heap_new (by simp))
    have hB : Below w.heap.size w W := (((Below.refl _ w).alloc (Nat.le_refl _) _).alloc (by simp) _).trans (hW.mono (by omega))
    exact ⟨hB, by have := hW.size; simpa using this, HA.out _ hB, HCA.out _ hB, HB.out _ hB, HCB.out _ hB, cell_cells (i := 0) g0, cell_cells (i := 1) g0, cell_cells (i := 2) g0, cell_cells (i := 0) g1, cell_cells (i := 1) g1, cell_cells (i := 2) g1⟩
  clear ha hb
  obtain ⟨hB0, hs0, a0, b0, a0', b0', _⟩ := HX.out _ (Below.refl _ _)
  cases h1 : caR a ca
  · have HR : Hid (kSame a b ca cb = false) := by unfold Hid kSame; rw [h1]; rfl
    have H1 := hid h1
    clear h1
    go_enter Tryz.func47, Tryz.ntmps47
    go_wp2_with fail
    refine (caright_any a ca _ _ _ _ a0 b0 hza hN1).mono ?_
    rw [H1.out]
    rintro e w1 ⟨rfl, hb⟩
    have hbk1 := hid (hb.mono (show w.heap.size + 2 ≤ _ by simp))
    clear hb
    obtain ⟨hB1, hs1, r1, s1, r1', s1', q0, q1, q2, q3, q4, q5⟩ := HX.out _ hbk1.out
    go_wp2_with fail
    go_ret
    exact ⟨ret_bool HR.out.symm, hB1⟩
  cases h2 : caR b cb
  · have HR : Hid (kSame a b ca cb = false) := by unfold Hid kSame; rw [h1, h2]; rfl
    have H1 := hid h1
    have H2 := hid h2
    clear h1 h2
    go_enter Tryz.func47, Tryz.ntmps47
    go_wp2_with fail
    refine (caright_any a ca _ _ _ _ a0 b0 hza hN1).mono ?_
    rw [H1.out]
    rintro e w1 ⟨rfl, hb⟩
    have hbk1 := hid (hb.mono (show w.heap.size + 2 ≤ _ by simp))
    clear hb
    obtain ⟨hB1, hs1, r1, s1, r1', s1', q0, q1, q2, q3, q4, q5⟩ := HX.out _ hbk1.out
    go_wp2_with fail
    refine (caright_any b cb _ _ _ w1 r1' s1' hzb hN2).mono ?_
    rw [H2.out]
    rintro e w2 ⟨rfl, hb⟩
    have hbk2 := hid (hbk1.out.trans (hb.mono hs1))
    clear hb q0 q1 q2 q3 q4 q5
    obtain ⟨hB2, hs2, r2, s2, r2', s2', q0, q1, q2, q3, q4, q5⟩ := HX.out _ hbk2.out
    go_wp2_with fail
    go_ret
    exact ⟨ret_bool HR.out.symm, hB2⟩
  have ht3 : tSame a b = trEq a b := by unfold tSame; rw [caR_right h1, caR_right h2]; rfl
  have hc3 : cSame ca cb = decide (ca = cb) := by unfold cSame; rw [caR_apart h1, caR_apart h2]; rfl
  cases h3 : trEq a b
  · have HR : Hid (kSame a b ca cb = false) := by unfold Hid kSame; rw [h1, h2, h3]; rfl
    have H1 := hid h1
    have H2 := hid h2
    have H3 : Hid (tSame a b = false) := ht3.trans h3
    clear h1 h2 h3 ht3 hc3
    go_enter Tryz.func47, Tryz.ntmps47
    go_wp2_with fail
    refine (caright_any a ca _ _ _ _ a0 b0 hza hN1).mono ?_
    rw [H1.out]
    rintro e w1 ⟨rfl, hb⟩
    have hbk1 := hid (hb.mono (show w.heap.size + 2 ≤ _ by simp))
    clear hb
    obtain ⟨hB1, hs1, r1, s1, r1', s1', q0, q1, q2, q3, q4, q5⟩ := HX.out _ hbk1.out
    go_wp2_with fail
    refine (caright_any b cb _ _ _ w1 r1' s1' hzb hN2).mono ?_
    rw [H2.out]
    rintro e w2 ⟨rfl, hb⟩
    have hbk2 := hid (hbk1.out.trans (hb.mono hs1))
    clear hb q0 q1 q2 q3 q4 q5
    obtain ⟨hB2, hs2, r2, s2, r2', s2', q0, q1, q2, q3, q4, q5⟩ := HX.out _ hbk2.out
    go_wp2_with fail
    refine (tSame_any a b w2 _ _ _ _ r2 r2').mono ?_
    rw [H3.out]
    rintro e w3 ⟨rfl, hb⟩
    have hbk3 := hid (hbk2.out.trans (hb.mono hs2))
    clear hb q0 q1 q2 q3 q4 q5
    obtain ⟨hB3, hs3, r3, s3, r3', s3', q0, q1, q2, q3, q4, q5⟩ := HX.out _ hbk3.out
    go_wp2_with fail
    go_ret
    exact ⟨ret_bool HR.out.symm, hB3⟩
  · have HR : Hid (kSame a b ca cb = decide (ca = cb)) := by unfold Hid kSame; rw [h1, h2, h3]; rfl
    have H1 := hid h1
    have H2 := hid h2
    have H3 : Hid (tSame a b = true) := ht3.trans h3
    have H4 := hid hc3
    clear h1 h2 h3 ht3 hc3
    go_enter Tryz.func47, Tryz.ntmps47
    go_wp2_with fail
    refine (caright_any a ca _ _ _ _ a0 b0 hza hN1).mono ?_
    rw [H1.out]
    rintro e w1 ⟨rfl, hb⟩
    have hbk1 := hid (hb.mono (show w.heap.size + 2 ≤ _ by simp))
    clear hb
    obtain ⟨hB1, hs1, r1, s1, r1', s1', q0, q1, q2, q3, q4, q5⟩ := HX.out _ hbk1.out
    go_wp2_with fail
    refine (caright_any b cb _ _ _ w1 r1' s1' hzb hN2).mono ?_
    rw [H2.out]
    rintro e w2 ⟨rfl, hb⟩
    have hbk2 := hid (hbk1.out.trans (hb.mono hs1))
    clear hb q0 q1 q2 q3 q4 q5
    obtain ⟨hB2, hs2, r2, s2, r2', s2', q0, q1, q2, q3, q4, q5⟩ := HX.out _ hbk2.out
    go_wp2_with fail
    refine (tSame_any a b w2 _ _ _ _ r2 r2').mono ?_
    rw [H3.out]
    rintro e w3 ⟨rfl, hb⟩
    have hbk3 := hid (hbk2.out.trans (hb.mono hs2))
    clear hb q0 q1 q2 q3 q4 q5
    obtain ⟨hB3, hs3, r3, s3, r3', s3', q0, q1, q2, q3, q4, q5⟩ := HX.out _ hbk3.out
    go_wp2_with fail
    refine (cSame_any ca cb _ _ w3 s3 s3' hN1 hN2).mono ?_
    rw [H4.out]
    rintro e w4 ⟨rfl, hb⟩
    go_wp2_with fail
    go_ret
    exact ⟨ret_bool HR.out.symm, hB3.trans (hb.mono (by omega))⟩
theorem kSame_ok {x y : Kn} (hx : KOk x) (hy : KOk y) : kSame x.1 y.1 x.2 y.2 = true ↔ x = y := by
  unfold kSame
  rw [caR_iff.2 hx, caR_iff.2 hy, Bool.true_and, Bool.true_and, Bool.and_eq_true, trEq_iff, decide_eq_true_eq]
  exact ⟨fun h => Prod.ext h.1 h.2, fun h => by subst h; simp⟩
/-- What causal.Leq tells. -/
noncomputable def kLeq (a b : Tr) (ca cb : List Sp) : Bool := caR a ca && (caR b cb && (trEq (jT a b ca cb) b && decide (jC ca cb = cb)))
theorem kLeq_ok {x y : Kn} (hx : KOk x) (hy : KOk y) : kLeq x.1 y.1 x.2 y.2 = true ↔ jn x y = y := by
  unfold kLeq
  rw [caR_iff.2 hx, caR_iff.2 hy, Bool.true_and, Bool.true_and, Bool.and_eq_true, trEq_iff, decide_eq_true_eq]
  exact ⟨fun h => Prod.ext h.1 h.2, fun h => ⟨congrArg Prod.fst h, congrArg Prod.snd h⟩⟩
theorem kLeq_eq {a b : Tr} {ca cb : List Sp} (ha : CaOk a ca) (hb : CaOk b cb) : kSame (jT a b ca cb) b (jC ca cb) cb = kLeq a b ca cb := by
  unfold kSame kLeq
  rw [caR_iff.2 ha, caR_iff.2 hb, caR_iff.2 (jT_ok ha hb)]
set_option maxHeartbeats 4000000 in
theorem cleqK_any (ca cb : List Sp) (a b : Tr) (va ka vb kb vca vcb : Value) (w : World) (ha : a.rd w w.heap.size va ka) (hb : b.rd w w.heap.size vb kb) (hca : SlP w w.heap.size 3 SpE vca ca) (hcb : SlP w w.heap.size 3 SpE vcb cb) (hza : a.sz ≤ 1500) (hzb : b.sz ≤ 1500) (hN1 : ca.length ≤ 9000) (hN2 : cb.length ≤ 9000) :
    Calls Tryz.prog 91 #[.agg #[va, ka, vca], .agg #[vb, kb, vcb]] w fun e w' => e = .returned (.bool (kLeq a b ca cb)) ∧ Below w.heap.size w w' := by
  have HA : Hid (∀ w', Below w.heap.size w w' → a.rd w' w'.heap.size va ka) := fun w' hb => rd_below hb hb.size _ _ _ ha
  have HB : Hid (∀ w', Below w.heap.size w w' → b.rd w' w'.heap.size vb kb) := fun w' hb' => rd_below hb' hb'.size _ _ _ hb
  have HCA : Hid (∀ w', Below w.heap.size w w' → SlP w' w'.heap.size 3 SpE vca ca) := fun w' hb => hca.imp hb hb.size fun _ _ _ h => h
  have HCB : Hid (∀ w', Below w.heap.size w w' → SlP w' w'.heap.size 3 SpE vcb cb) := fun w' hb => hcb.imp hb hb.size fun _ _ _ h => h
  obtain ⟨A1, n1, A2, n2, rfl, rfl⟩ := rd_shape ha
  obtain ⟨A3, n3, A4, n4, rfl, rfl⟩ := rd_shape hb
  obtain ⟨A5, n5, rfl, _⟩ := hca
  obtain ⟨A6, n6, rfl, _⟩ := hcb
  have HX : Hid (∀ W, Below (w.heap.size + 2) ((w.alloc (.cells #[.slice A1 a.es.length n1, .slice A2 a.ks.length n2, .slice A5 ca.length n5] 31)).alloc (.cells #[.slice A3 b.es.length n3, .slice A4 b.ks.length n4, .slice A6 cb.length n6] 31)) W → (Below w.heap.size w W ∧ w.heap.size + 2 ≤ (W).heap.size ∧ a.rd W (W).heap.size (.slice A1 a.es.length n1) (.slice A2 a.ks.length n2) ∧ SlP W (W).heap.size 3 SpE (.slice A5 ca.length n5) ca ∧ b.rd W (W).heap.size (.slice A3 b.es.length n3) (.slice A4 b.ks.length n4) ∧ SlP W (W).heap.size 3 SpE (.slice A6 cb.length n6) cb ∧ (W).cell? ⟨w.heap.size, 0, none⟩ = some (.slice A1 a.es.length n1) ∧ (W).cell? ⟨w.heap.size, 1, none⟩ = some (.slice A2 a.ks.length n2) ∧ (W).cell? ⟨w.heap.size, 2, none⟩ = some (.slice A5 ca.length n5) ∧ (W).cell? ⟨w.heap.size + 1, 0, none⟩ = some (.slice A3 b.es.length n3) ∧ (W).cell? ⟨w.heap.size + 1, 1, none⟩ = some (.slice A4 b.ks.length n4) ∧ (W).cell? ⟨w.heap.size + 1, 2, none⟩ = some (.slice A6 cb.length n6))) := fun W hW => by
    have g0 : W.heap[w.heap.size]? = some (.cells #[.slice A1 a.es.length n1, .slice A2 a.ks.length n2, .slice A5 ca.length n5] 31 (0, 0)) := (hW.block _ (by omega)).trans ((heap_old (by simp)).trans (heap_new rfl))
    have g1 : W.heap[w.heap.size + 1]? = some (.cells #[.slice A3 b.es.length n3, .slice A4 b.ks.length n4, .slice A6 cb.length n6] 31 (0, 0)) := (hW.block _ (by omega)).trans (heap_new (by simp))
    have hB : Below w.heap.size w W := (((Below.refl _ w).alloc (Nat.le_refl _) _).alloc (by simp) _).trans (hW.mono (by omega))
    exact ⟨hB, by have := hW.size; simpa using this, HA.out _ hB, HCA.out _ hB, HB.out _ hB, HCB.out _ hB, cell_cells (i := 0) g0, cell_cells (i := 1) g0, cell_cells (i := 2) g0, cell_cells (i := 0) g1, cell_cells (i := 1) g1, cell_cells (i := 2) g1⟩
  clear ha hb
  obtain ⟨hB0, hs0, a0, b0, a0', b0', _⟩ := HX.out _ (Below.refl _ _)
  by_cases h : caR a ca = true ∧ caR b cb = true
  · obtain ⟨h1, h2⟩ := h
    have ha := caR_iff.1 h1
    have hb := caR_iff.1 h2
    obtain ⟨j1, j2, j3⟩ := jn_ok ha hb
    have hsz1 := jT_sz ha hb
    have hsz2 := jC_len ha.ap hb.ap
    have HR := hid (kLeq_eq ha hb)
    have HJ1 := hid j1
    have HJ2 := hid j2
    have HJ3 := hid j3
    clear h1 h2 ha hb j1 j2 j3
    go_enter Tryz.func91, Tryz.ntmps91
    go_wp2_with fail
    refine (cJoin_any ca cb a b _ _ _ _ _ _ _ a0 a0' b0 b0' (by omega) (by omega) (by omega) (by omega)).mono ?_
    rw [HJ1.out, HJ2.out, HJ3.out]
    rintro e w1 ⟨ve, vk, vc, rfl, hrd, hsl, hb⟩
    generalize jT a b ca cb = T at *
    generalize jC ca cb = C at *
    obtain ⟨Av, nv, Aw, nw, rfl, rfl⟩ := rda_shape hrd
    obtain ⟨Ac, nc, rfl⟩ := hsl.shape
    have hbk1 := hid (hb.mono (show w.heap.size + 2 ≤ _ by simp))
    clear hb
    obtain ⟨hB1, hs1, r1, s1, r1', s1', q0, q1, q2, q3, q4, q5⟩ := HX.out _ hbk1.out
    have hv : Below w1.heap.size w1 (w1.alloc (.cells #[.slice Av T.es.length nv, .slice Aw T.ks.length nw, .slice Ac C.length nc] 31)) := (Below.refl _ w1).alloc (Nat.le_refl _) _
    obtain ⟨hBV, hsV, rV, sV, rV', sV', _⟩ := HX.out _ (hbk1.out.trans (hv.mono hs1))
    have HRD := hid (rda_rd hrd (fun b hb => hb.2) hv)
    have HSL := hid (hsl.slp (fun b hb => hb.2) hv)
    have hne : w.heap.size + 1 ≠ w1.heap.size := by omega
    clear hrd hsl hv
    go_wp2_with fail
    refine (csame_any C cb T b _ _ _ _ _ _ _ HRD.out rV' HSL.out sV' (by omega) (by omega) (by omega) (by omega)).mono ?_
    rw [HR.out]
    rintro e w2 ⟨rfl, hb⟩
    go_wp2_with fail
    go_ret
    exact ⟨rfl, hBV.trans (hb.mono (by omega))⟩
  · have hr : kLeq a b ca cb = false := by
      unfold kLeq
      cases h1 : caR a ca
      · rfl
      · cases h2 : caR b cb
        · rfl
        · exact absurd ⟨h1, h2⟩ h
    have hj : jnE a b ca cb = 1 := by
      unfold jnE
      cases h1 : caR a ca
      · rfl
      · cases h2 : caR b cb
        · rfl
        · exact absurd ⟨h1, h2⟩ h
    have HR := hid hr
    have HJ1 := hid hj
    clear h hr hj
    go_enter Tryz.func91, Tryz.ntmps91
    go_wp2_with fail
    refine (cJoin_any ca cb a b _ _ _ _ _ _ _ a0 a0' b0 b0' (by omega) (by omega) (by omega) (by omega)).mono ?_
    rw [HJ1.out]
    rintro e w1 ⟨ve, vk, vc, rfl, hrd, hsl, hb⟩
    generalize jnT a b ca cb = T at *
    generalize jnC a b ca cb = C at *
    obtain ⟨Av, nv, Aw, nw, rfl, rfl⟩ := rda_shape hrd
    obtain ⟨Ac, nc, rfl⟩ := hsl.shape
    have hbk1 := hid (hb.mono (show w.heap.size + 2 ≤ _ by simp))
    clear hb
    obtain ⟨hB1, hs1, r1, s1, r1', s1', q0, q1, q2, q3, q4, q5⟩ := HX.out _ hbk1.out
    clear hrd hsl
    go_wp2_with fail
    go_ret
    exact ⟨ret_bool HR.out.symm, hB1.alloc (by omega) _⟩
set_option maxHeartbeats 4000000 in
theorem l09join_any (ca cb : List Sp) (a b : Tr) (va ka vb kb vca vcb : Value) (w : World) (ha : a.rd w w.heap.size va ka) (hb : b.rd w w.heap.size vb kb) (hca : SlP w w.heap.size 3 SpE vca ca) (hcb : SlP w w.heap.size 3 SpE vcb cb) (hza : a.sz ≤ 4000) (hzb : b.sz ≤ 4000) (hN1 : ca.length ≤ 20000) (hN2 : cb.length ≤ 20000) :
    Calls Tryz.prog 36 #[.agg #[va, ka, vca], .agg #[vb, kb, vcb]] w (RetC w (jnT a b ca cb) (jnC a b ca cb)) := by
  have HA := hid ha
  have HB := hid hb
  have HCA := hid hca
  have HCB := hid hcb
  obtain ⟨A1, n1, A2, n2, rfl, rfl⟩ := rd_shape ha
  obtain ⟨A3, n3, A4, n4, rfl, rfl⟩ := rd_shape hb
  obtain ⟨A5, n5, rfl, _⟩ := hca
  obtain ⟨A6, n6, rfl, _⟩ := hcb
  have hB0 : Below w.heap.size w (((w.alloc (.cells #[.slice A1 a.es.length n1, .slice A2 a.ks.length n2, .slice A5 ca.length n5] 31)).alloc (.cells #[.slice A3 b.es.length n3, .slice A4 b.ks.length n4, .slice A6 cb.length n6] 31)).alloc (.cells #[.slice none 0 0, .slice none 0 0, .slice none 0 0] 31)) := (((Below.refl _ w).alloc (Nat.le_refl _) _).alloc (by simp) _).alloc (by simp; omega) _
  clear ha hb
  go_enter Tryz.func36, Tryz.ntmps36
  go_wp2_with fail
  refine (cJoin_any ca cb a b _ _ _ _ _ _ _ (rd_below hB0 hB0.size _ _ _ HA.out) (rd_below hB0 hB0.size _ _ _ HB.out) (HCA.out.imp hB0 hB0.size fun _ _ _ h => h) (HCB.out.imp hB0 hB0.size fun _ _ _ h => h) hza hzb hN1 hN2).mono ?_
  rintro e w1 ⟨ve, vk, vc, rfl, hrd, hsl, hb⟩
  generalize jnT a b ca cb = T at *
  generalize jnC a b ca cb = C at *
  generalize jnE a b ca cb = k at *
  obtain ⟨Av, nv, Aw, nw, rfl, rfl⟩ := rda_shape hrd
  obtain ⟨Ac, nc, rfl⟩ := hsl.shape
  have hsz := hb.size
  simp only [World.size_alloc] at hsz hb hrd hsl
  have hG : w1.heap[w.heap.size + 2]? = some (.cells #[.slice none 0 0, .slice none 0 0, .slice none 0 0] 31 (0, 0)) := (hb.block _ (by omega)).trans (heap_new (by simp))
  have HG : Hid (w1.heap[w.heap.size + 1 + 1]? = some (.cells #[.slice none 0 0, .slice none 0 0, .slice none 0 0] 31 (0, 0))) := hG
  have HBW := hid (hB0.trans (hb.mono (by omega)))
  have HR1 := hid hrd
  have HS1 := hid hsl
  have k0 := cell_cells (i := 0) hG
  have k1 := cell_cells (i := 1) hG
  have k2 := cell_cells (i := 2) hG
  simp only [List.getElem?_toArray, List.getElem?_cons_zero, List.getElem?_cons_succ] at k0 k1 k2
  have z0 := cells_frz (i := 0) hG
  have z1 := cells_frz (i := 1) hG
  have z2 := cells_frz (i := 2) hG
  have hl0 : w.heap.size + 2 < w1.heap.size := by omega
  have hl0' : w.heap.size + 2 ≠ w1.heap.size := by omega
  have hl1 : w.heap.size + 1 + 1 < w1.heap.size := by omega
  have hl1' : w.heap.size + 1 + 1 ≠ w1.heap.size := by omega
  clear hrd hsl hb hG hB0
  go_wp2_with fail
  obtain ⟨r0, r1, r2, hK, hS, _⟩ := box3a HG.out (.slice Av T.es.length nv) (.slice Aw T.ks.length nw) (.slice Ac C.length nc) (.cells #[.slice Av T.es.length nv, .slice Aw T.ks.length nw, .slice Ac C.length nc] 31)
  have hBW := below_box3 (g := w.heap.size + 1 + 1) HBW.out (by omega) (by omega) (.slice Av T.es.length nv) (.slice Aw T.ks.length nw) (.slice Ac C.length nc) (.cells #[.slice Av T.es.length nv, .slice Aw T.ks.length nw, .slice Ac C.length nc] 31)
  refine bodyPost_ret (v := .agg #[.slice Av T.es.length nv, .slice Aw T.ks.length nw, .slice Ac C.length nc]) (by simp [results, Tryz.results36, go_sem, r0, r1, r2]) rfl ⟨_, _, _, rfl, ?_, ?_, hBW⟩
  · exact rda_up (fun b hb => hK b (by omega) hb.2) (fun b hb => ⟨by omega, by rw [hS]; omega⟩) _ _ _ HR1.out
  · exact HS1.out.up (fun b hb => hK b (by omega) hb.2) (fun b hb => ⟨by omega, by rw [hS]; omega⟩) (fun _ _ _ h => h)
end Go.Proofs.YtmphgnjodangcaaGreat

namespace Go.Proofs.YtmphgnjodangcaaGreat
open Go.RowKit
set_option maxRecDepth 100000

theorem kid_right {t : Tr} (h : t.right 5 = true) (s : ByteArray) : (kidT t s).right 5 = true := right_up _ 4 5 (kidT_right (n := 4) h (by omega) s) (by omega)
theorem kid_ok {t : Tr} {c : List Sp} (h : CaOk t c) (s : ByteArray) : CaOk (kidT t s) c :=
  ⟨kidT_ord h.ord s, right_leaf _ 5 (kid_right ((right_iff h.ord).2 h.leaf) s), h.ap, fun x hx => h.has (s :: x.1, x.2) ((mem_kidT h.ord).1 hx)⟩
theorem kid_st {t : Tr} (h : t.Ord) (s : ByteArray) (p : List ByteArray) (d : Dt) : stE (kidT t s) p d = stE t (s :: p) d := by
  have ho := kidT_ord h s
  cases hs : stE t (s :: p) d with
  | none => exact (stE_none ho).2 fun e he => (stE_none h).1 hs e ((mem_kidT h).1 he)
  | some e =>
    obtain ⟨h1, h2⟩ := (stE_some h).1 hs
    exact (stE_some ho).2 ⟨(mem_kidT h).2 h1, h2⟩
theorem wrapT_mem {D : Tr} {s : ByteArray} (hE : wrapE D s = 0) (hD : D.Ord) {x : Lf} : x ∈ (wrapT D s).lvs [] ↔ ∃ y ∈ D.lvs [], x = (s :: y.1, y.2) := by
  unfold wrapT
  rw [if_pos hE]
  cases hem : empB D.es.length D.ks.length
  · rw [if_neg (by simp)]
    simp only [Tr.lvs, Tr.lvsL, List.map_nil, List.nil_append, List.append_nil]
    rw [lvs_at D [s], List.mem_map]
    exact ⟨fun ⟨y, hy, he⟩ => ⟨y, hy, he.symm⟩, fun ⟨y, hy, he⟩ => ⟨y, hy, he.symm⟩⟩
  · rw [if_pos rfl]
    rw [empB_empty] at hem
    have h1 := lvs_empty hD
    rw [hem] at h1
    have h2 : D.lvs [] = [] := List.isEmpty_iff.1 h1
    rw [h2]; simp
theorem wrapT_ord {D : Tr} {s : ByteArray} (hE : wrapE D s = 0) (hD : D.Ord) : (wrapT D s).Ord ∧ keyB s = true ∧ (D.empty = false → D.dep + 1 ≤ 5) := by
  have hk : keyB s = true ∧ (D.empty = false → D.dep + 1 ≤ 5) := by
    unfold wrapE at hE
    split at hE
    · cases hE
    · rename_i h1
      rw [empB_empty] at hE
      split at hE
      · cases hE
      · rename_i h2
        simp at h1 h2
        exact ⟨h1.2, fun he => by have := h2 he; omega⟩
  refine ⟨?_, hk⟩
  unfold wrapT
  rw [if_pos hE]
  cases hem : empB D.es.length D.ks.length
  · rw [if_neg (by simp)]
    rw [empB_empty] at hem
    exact Ord.mk' .nil (List.pairwise_singleton _ _) fun k t h => by
      simp at h
      obtain ⟨rfl, rfl⟩ := h
      exact ⟨keyB_ne hk.1, hem, hD⟩
  · rw [if_pos rfl]; exact hD
theorem wrapT_ok {D : Tr} {c : List Sp} {s : ByteArray} (hE : wrapE D s = 0) (hD : CaOk D c) : CaOk (wrapT D s) c := by
  obtain ⟨h1, h2, h3⟩ := wrapT_ord hE hD.ord
  refine ⟨h1, fun x hx => ?_, hD.ap, fun x hx => ?_⟩
  · obtain ⟨y, hy, rfl⟩ := (wrapT_mem hE hD.ord).1 hx
    have hl := hD.leaf y hy
    have hne : D.empty = false := by
      cases he : D.empty
      · rfl
      · have h4 := lvs_empty hD.ord
        rw [he] at h4
        rw [List.isEmpty_iff.1 h4] at hy
        cases hy
    have h5 := (dep_iff D hD.ord hne D.dep).2 (Nat.le_refl _) y hy
    have h6 := h3 hne
    exact ⟨by simp only [List.length_cons]; omega, fun k hk => by
      rcases List.mem_cons.1 hk with rfl | hk
      · exact h2
      · exact hl.2.1 k hk, hl.2.2⟩
  · obtain ⟨y, hy, rfl⟩ := (wrapT_mem hE hD.ord).1 hx
    exact hD.has y hy
theorem wrapT_st {D : Tr} {s : ByteArray} (hE : wrapE D s = 0) (hD : D.Ord) (p : List ByteArray) (d : Dt) : stE (wrapT D s) (s :: p) d = stE D p d := by
  have ho := (wrapT_ord hE hD).1
  cases hs : stE D p d with
  | none =>
    refine (stE_none ho).2 fun e he => ?_
    obtain ⟨y, hy, h1⟩ := (wrapT_mem hE hD).1 he
    simp only [Prod.mk.injEq, List.cons.injEq, true_and] at h1
    obtain ⟨h2, h3⟩ := h1
    have := (stE_none hD).1 hs y.2 (by rw [h2]; exact hy)
    rw [h3]; exact this
  | some e =>
    obtain ⟨h1, h2⟩ := (stE_some hD).1 hs
    exact (stE_some ho).2 ⟨(wrapT_mem hE hD).2 ⟨(p, e), h1, rfl⟩, h2⟩
theorem updE_ok {t : Tr} {key : ByteArray} {D : Tr} {c : List Sp} (h : updE t key D c = 0) : t.right 5 = true ∧ caR D c = true ∧ wrapE D key = 0 := by
  unfold updE at h
  split at h
  · cases h
  · rename_i h1
    split at h
    · cases h
    · simp at h1
      exact ⟨h1.1.1, h1.1.2, h⟩
theorem updE_vals (t : Tr) (key : ByteArray) (D : Tr) (c : List Sp) : updE t key D c = 0 ∨ updE t key D c = 1 ∨ updE t key D c = 4 ∨ updE t key D c = 10 := by
  unfold updE wrapE
  split
  · simp
  · split
    · simp
    · split
      · simp
      · split <;> simp
theorem ob_bad {t : Tr} {key : ByteArray} {D : Tr} {c : List Sp} (h : updE t key D c ≠ 0) : ∃ (T : Tr) (C : List Sp), Hid (updT t key D c = T) ∧ Hid (updC t key D c = C) ∧ Hid ((trEq T (.mk [] []) && decide (C = [])) = true) :=
  ⟨_, _, if_neg h, if_neg h, by simp [Hid, trEq]⟩
theorem tSame_self {t : Tr} (h : t.right 5 = true) : tSame t t = true := by
  unfold tSame
  rw [h]
  simp [trEq_iff.2 rfl]
set_option maxHeartbeats 1000000 in
theorem ob_plain {t : Tr} {key : ByteArray} {D : Tr} {c : List Sp} (hr : t.right 5 = true) (hu : updE t key D c = 0) (hz : t.sz ≤ 60) (hzD : D.sz ≤ 40) (_ : c.length ≤ 40) : ∃ (X G A : Tr) (U : List Sp) (B : Tr) (V : List Sp),
    Hid (updT t key D c = X) ∧ Hid (updC t key D c = c) ∧ Hid (jnE t X (knC t) c = 0) ∧ Hid (jnT t X (knC t) c = A) ∧ Hid (jnC t X (knC t) c = U) ∧ Hid (getT t [key] = G) ∧
    Hid (jnE G D (knC t) c = 0) ∧ Hid (jnT G D (knC t) c = B) ∧ Hid (jnC G D (knC t) c = V) ∧ Hid (tgetT A [key] = B) ∧ Hid (tSame B B = true) ∧
    X.sz ≤ 4000 ∧ G.sz ≤ 60 ∧ A.sz ≤ 4000 ∧ B.sz ≤ 4000 ∧ (knC t).length ≤ 400 ∧ Hid (∀ d ∈ t.dots, 0 ≤ d.n ∧ d.n ≤ 1099511627778) := by
  obtain ⟨_, h2, h3⟩ := updE_ok hu
  have hD := caR_iff.1 h2
  have hk := known_ok hr
  have hW := wrapT_ok h3 hD
  have hG := kid_ok hk key
  obtain ⟨a1, a2, a3⟩ := jn_ok hk hW
  obtain ⟨b1, b2, b3⟩ := jn_ok hG hD
  have hA := jT_ok hk hW
  have hB := jT_ok hG hD
  have hget : getT t [key] = kidT t key := get_law hk.ord [key]
  have hkA : kidT (jT t (wrapT D key) (knC t) c) key = jT (kidT t key) D (knC t) c :=
    st_ext (kidT_ord hA.ord key) hB.ord fun p x => by
      rw [kid_st hA.ord, stE_join hk hW, stE_join hG hD, wrapT_st h3 hD.ord, kid_st hk.ord]
  have htg : tgetT (jT t (wrapT D key) (knC t) c) [key] = jT (kidT t key) D (knC t) c := by
    unfold tgetT
    rw [(right_iff hA.ord).2 hA.leaf, if_pos rfl]; exact hkA
  have s1 := jT_sz hk hW
  have s2 := jT_sz hG hD
  have s3 := kn_sz (t := t) hz
  have s4 := kidT_sz t key
  have s5 : (wrapT D key).sz ≤ D.sz + 1 := by
    unfold wrapT
    rw [if_pos h3]
    split
    · omega
    · simp [Tr.sz, Tr.szL]; omega
  exact ⟨_, _, _, _, _, _, if_pos hu, if_pos hu, a1, a2, a3, hget, b1, b2, b3, htg, tSame_self ((right_iff hB.ord).2 hB.leaf), by omega, by omega, by omega, by omega, s3, right_nums hr⟩
end Go.Proofs.YtmphgnjodangcaaGreat

namespace Go.Proofs.YtmphgnjodangcaaGreat
open Go.RowKit
set_option maxRecDepth 100000

/-- A box of three cells that holds what is known, in a world come of V above m. -/
def Box3 (m : Nat) (V : World) (e : TypeId) (T : Tr) (c : List Sp) (s : Value) (wx : World) : Prop :=
  ∃ g u v x, s = .pointer (some ⟨g, 0, none⟩) ∧ wx.heap[g]? = some (.cells #[u, v, x] e (0, 0)) ∧ T.rd wx wx.heap.size u v ∧ SlP wx wx.heap.size 3 SpE x c ∧ Below m V wx
theorem box_new {m N : Nat} {V w7 : World} {e : TypeId} {T : Tr} {c : List Sp} {u v x : Value} (hb : Below m V w7) (hm : m ≤ w7.heap.size) (hr : T.rda w7 (fun b => N ≤ b ∧ b < w7.heap.size) u v) (hc : SlA w7 (fun b => N ≤ b ∧ b < w7.heap.size) 3 SpE x c) :
    Box3 m V e T c (.pointer (some ⟨w7.heap.size, 0, none⟩)) (w7.alloc (.cells #[u, v, x] e)) := by
  have h1 : Below w7.heap.size w7 (w7.alloc (.cells #[u, v, x] e)) := (Below.refl _ _).alloc (Nat.le_refl _) _
  exact ⟨w7.heap.size, u, v, x, rfl, heap_new rfl, rda_rd hr (fun b hb => hb.2) h1, hc.slp (fun b hb => hb.2) h1, hb.alloc hm _⟩
theorem box_set {m N g : Nat} {V w7 : World} {e : TypeId} {T : Tr} {c : List Sp} {u v x a b d : Value} (hbx : w7.heap[g]? = some (.cells #[a, b, d] e (0, 0))) (hb : Below m V w7) (hg : m ≤ g) (hgN : g < N) (hr : T.rda w7 (fun b => N ≤ b ∧ b < w7.heap.size) u v) (hc : SlA w7 (fun b => N ≤ b ∧ b < w7.heap.size) 3 SpE x c) :
    Box3 m V e T c (.pointer (some ⟨g, 0, none⟩)) (((w7.setCell ⟨g, 0, none⟩ u).setCell ⟨g, 1, none⟩ v).setCell ⟨g, 2, none⟩ x) := by
  obtain ⟨_, _, _, hK, hS⟩ := box3 hbx u v x
  have hW := cells_set (i := 2) (cells_set (i := 1) (cells_set (i := 0) hbx u) v) x
  refine ⟨g, u, v, x, rfl, by simpa using hW, rda_rd (rda_up (fun b hb => hK b (by omega)) (fun b hb => by rw [hS]; exact hb.2) _ _ _ hr) (fun _ h => h) (Below.refl _ _), ?_, ((hb.setCell hg _).setCell hg _).setCell hg _⟩
  exact (hc.up (ok' := fun b => b < (((w7.setCell ⟨g, 0, none⟩ u).setCell ⟨g, 1, none⟩ v).setCell ⟨g, 2, none⟩ x).heap.size) (fun b hb => hK b (by omega)) (fun b hb => by rw [hS]; exact hb.2) (fun _ _ _ h => h)).slp (fun _ h => h) (Below.refl _ _)
theorem z_new {w1 w7 : World} {a : Array Value} {e : TypeId} (hb : Below (w1.alloc (.cells a e (0, 0))).heap.size (w1.alloc (.cells a e (0, 0))) w7) : w7.heap[w1.heap.size]? = some (.cells a e (0, 0)) := (hb.block _ (by simp)).trans (heap_new rfl)
theorem z_new2 {w1 w7 : World} {o : Obj} {a : Array Value} {e : TypeId} (hb : Below ((w1.alloc o).alloc (.cells a e (0, 0))).heap.size ((w1.alloc o).alloc (.cells a e (0, 0))) w7) : w7.heap[w1.heap.size + 1]? = some (.cells a e (0, 0)) := (hb.block _ (by simp)).trans (heap_new (by simp))
theorem z_newD {w1 w7 : World} {a : Array Value} {e : TypeId} (hb : Below (w1.alloc (.cells a e (0, 0))).drew.heap.size (w1.alloc (.cells a e (0, 0))).drew w7) : w7.heap[w1.heap.size]? = some (.cells a e (0, 0)) := (hb.block _ (by simp)).trans (heap_new (w := w1) rfl)
theorem z_new2D {w1 w7 : World} {o : Obj} {a : Array Value} {e : TypeId} (hb : Below ((w1.alloc o).alloc (.cells a e (0, 0))).drew.heap.size ((w1.alloc o).alloc (.cells a e (0, 0))).drew w7) : w7.heap[w1.heap.size + 1]? = some (.cells a e (0, 0)) := (hb.block _ (by simp)).trans (heap_new (w := w1.alloc o) (by simp))
end Go.Proofs.YtmphgnjodangcaaGreat

namespace Go.Proofs.YtmphgnjodangcaaGreat
open Go.RowKit
set_option maxRecDepth 100000

/-- What one lies as: its tree and its context. -/
def CaE (w : World) (B : Nat) (x : Tr × List Sp) (cs : List Value) : Prop := ∃ ve vk vc, cs = [ve, vk, vc] ∧ x.1.rd w B ve vk ∧ SlP w B 3 SpE vc x.2
set_option maxHeartbeats 2000000 in
theorem small09_any (l : List (Tr × List Sp)) (vl : Value) (w : World) (h : SlP w w.heap.size 3 (CaE w w.heap.size) vl l) :
    Calls Tryz.prog 27 #[vl] w fun e w' => e = .returned (.bool (l.all fun x => sml9 x.1 x.2 40)) ∧ Below w.heap.size w w' := by
  obtain ⟨A, m, rfl, c1, c2, c3⟩ := h
  unfold Big at c2
  go_enter Tryz.func27, Tryz.ntmps27
  go_wp2_with fail
  go_loopw [6] (fun i wr => ∃ k : Nat, k ≤ l.length ∧ i = .int .i64 k ∧ Hid ((l.take k).all (fun x => sml9 x.1 x.2 40) = true) ∧ Below w.heap.size w wr) (fun i _ => l.length - (intOf i).toNat)
  case atStart => exact ⟨0, Nat.zero_le _, rfl, by unfold Hid; simp, Below.refl _ _⟩
  case round =>
    obtain ⟨k, hk, rfl, hall, hb⟩ := hrel
    by_cases hlt : k < l.length
    · obtain ⟨⟨t, c⟩, hx⟩ : ∃ x, l[k]? = some x := ⟨_, List.getElem?_eq_getElem hlt⟩
      obtain ⟨b, off, rfl, hbB, hc⟩ := c3 (by rintro rfl; simp at hlt)
      obtain ⟨cs, ⟨ve, vk, vc, rfl, hrd, hsl⟩, _, hu⟩ := hc k _ hx
      obtain ⟨A3, n3, A4, n4, rfl, rfl⟩ := rd_shape hrd
      obtain ⟨A5, n5, hv5, _⟩ := id hsl
      simp only at hv5 hrd hsl
      subst hv5
      have e0 : wr.cell? ⟨b, off + k * 3, none⟩ = some (.slice A3 t.es.length n3) := (hb.cell hbB).trans (hu 0 _ rfl)
      have e1 : wr.cell? ⟨b, off + k * 3 + 1, none⟩ = some (.slice A4 t.ks.length n4) := (hb.cell hbB).trans (hu 1 _ rfl)
      have e2 : wr.cell? ⟨b, off + k * 3 + 2, none⟩ = some (.slice A5 c.length n5) := (hb.cell hbB).trans (hu 2 _ rfl)
      have HRD := hid (rd_below hb hb.size _ _ _ hrd)
      have HSL : Hid (SlP wr wr.heap.size 3 SpE (.slice A5 c.length n5) c) := hsl.imp hb hb.size fun _ _ _ h => h
      have hmem := List.mem_of_getElem? hx
      have htk : l.take (k + 1) = l.take k ++ [(t, c)] := by rw [List.take_add_one, hx]; rfl
      have HTK := hid htk
      have HME := hid hmem
      clear hu hc c3 hx hrd hsl hmem htk
      go_wp2_with fail
      refine (r09small_any t c 40 _ _ _ wr HRD.out HSL.out (by omega) (by omega)).mono ?_
      cases hs : sml9 t c 40
      · rintro e w1 ⟨rfl, hb1⟩
        have HS := hid hs
        clear hs
        go_wp2_with fail
        go_ret
        exact ⟨ret_bool (List.all_eq_false.2 ⟨_, HME.out, by simp [HS.out]⟩).symm, hb.trans (hb1.mono hb.size)⟩
      · rintro e w1 ⟨rfl, hb1⟩
        have HS := hid hs
        clear hs
        go_wp2_with fail
        go_roundw
        case rel => exact ⟨k + 1, by omega, by go_num, by unfold Hid; rw [HTK.out, List.all_append, hall.out]; simp [HS.out], hb.trans (hb1.mono hb.size)⟩
        case measure => simp [intOf]; omega
    · obtain rfl : k = l.length := by omega
      rw [List.take_of_length_le (Nat.le_refl _)] at hall
      go_wp2_with fail
      go_ret
      exact ⟨ret_bool hall.out.symm, hb⟩
set_option maxHeartbeats 2000000 in
theorem right09_any (l : List (Tr × List Sp)) (vl : Value) (w : World) (h : SlP w w.heap.size 3 (CaE w w.heap.size) vl l) (hN : ∀ x ∈ l, x.1.sz ≤ 4000 ∧ x.2.length ≤ 20000) :
    Calls Tryz.prog 28 #[vl] w fun e w' => e = .returned (.bool (l.all fun x => caR x.1 x.2)) ∧ Below w.heap.size w w' := by
  obtain ⟨A, m, rfl, c1, c2, c3⟩ := h
  unfold Big at c2
  go_enter Tryz.func28, Tryz.ntmps28
  go_wp2_with fail
  go_loopw [6] (fun i wr => ∃ k : Nat, k ≤ l.length ∧ i = .int .i64 k ∧ Hid ((l.take k).all (fun x => caR x.1 x.2) = true) ∧ Below w.heap.size w wr) (fun i _ => l.length - (intOf i).toNat)
  case atStart => exact ⟨0, Nat.zero_le _, rfl, by unfold Hid; simp, Below.refl _ _⟩
  case round =>
    obtain ⟨k, hk, rfl, hall, hb⟩ := hrel
    by_cases hlt : k < l.length
    · obtain ⟨⟨t, c⟩, hx⟩ : ∃ x, l[k]? = some x := ⟨_, List.getElem?_eq_getElem hlt⟩
      obtain ⟨b, off, rfl, hbB, hc⟩ := c3 (by rintro rfl; simp at hlt)
      obtain ⟨cs, ⟨ve, vk, vc, rfl, hrd, hsl⟩, _, hu⟩ := hc k _ hx
      obtain ⟨A3, n3, A4, n4, rfl, rfl⟩ := rd_shape hrd
      obtain ⟨A5, n5, hv5, _⟩ := id hsl
      simp only at hv5 hrd hsl
      subst hv5
      have e0 : wr.cell? ⟨b, off + k * 3, none⟩ = some (.slice A3 t.es.length n3) := (hb.cell hbB).trans (hu 0 _ rfl)
      have e1 : wr.cell? ⟨b, off + k * 3 + 1, none⟩ = some (.slice A4 t.ks.length n4) := (hb.cell hbB).trans (hu 1 _ rfl)
      have e2 : wr.cell? ⟨b, off + k * 3 + 2, none⟩ = some (.slice A5 c.length n5) := (hb.cell hbB).trans (hu 2 _ rfl)
      have HRD := hid (rd_below hb hb.size _ _ _ hrd)
      have HSL : Hid (SlP wr wr.heap.size 3 SpE (.slice A5 c.length n5) c) := hsl.imp hb hb.size fun _ _ _ h => h
      have hmem := List.mem_of_getElem? hx
      have htk : l.take (k + 1) = l.take k ++ [(t, c)] := by rw [List.take_add_one, hx]; rfl
      have HTK := hid htk
      have HME := hid hmem
      have HN := hid (hN _ hmem)
      clear hu hc c3 hx hrd hsl hmem htk
      go_wp2_with fail
      have hr9 : r9R t c = caR t c := (caR_r9 t c).symm
      refine (r09right_any t c _ _ _ wr HRD.out HSL.out HN.out.1 HN.out.2).mono ?_
      rw [hr9]
      clear hr9
      cases hs : caR t c
      · rintro e w1 ⟨rfl, hb1⟩
        have HS := hid hs
        clear hs
        go_wp2_with fail
        go_ret
        exact ⟨ret_bool (List.all_eq_false.2 ⟨_, HME.out, by simp [HS.out]⟩).symm, hb.trans (hb1.mono hb.size)⟩
      · rintro e w1 ⟨rfl, hb1⟩
        have HS := hid hs
        clear hs
        go_wp2_with fail
        go_roundw
        case rel => exact ⟨k + 1, by omega, by go_num, by unfold Hid; rw [HTK.out, List.all_append, hall.out]; simp [HS.out], hb.trans (hb1.mono hb.size)⟩
        case measure => simp [intOf]; omega
    · obtain rfl : k = l.length := by omega
      rw [List.take_of_length_le (Nat.le_refl _)] at hall
      go_wp2_with fail
      go_ret
      exact ⟨ret_bool hall.out.symm, hb⟩
theorem sml9_sz {t : Tr} {c : List Sp} (h : sml9 t c 40 = true) : t.sz ≤ 40 ∧ c.length ≤ 40 := by
  unfold sml9 at h
  rw [Bool.and_eq_true] at h
  have h1 := sml_sz h.1
  have h2 := of_decide_eq_true h.2
  omega
end Go.Proofs.YtmphgnjodangcaaGreat

namespace Go.Proofs.YtmphgnjodangcaaGreat
open Go.RowKit
set_option maxRecDepth 100000

theorem slp3 {α : Type} {w : World} {g B : Nat} {E : α → List Value → Prop} {x y z : α} {a0 a1 a2 b0 b1 b2 c0 c1 c2 : Value} {e : TypeId} (hG : w.heap[g]? = some (.cells #[a0, a1, a2, b0, b1, b2, c0, c1, c2] e (0, 0))) (hx : E x [a0, a1, a2]) (hy : E y [b0, b1, b2]) (hz : E z [c0, c1, c2]) (hB : g < B) :
    SlP w B 3 E (.slice (some ⟨g, 0, none⟩) 3 3) [x, y, z] := by
  refine ⟨_, 3, rfl, Nat.le_refl _, by simp [Big], fun _ => ⟨_, 0, rfl, hB, fun j u hu => ?_⟩⟩
  match j, hu with
  | 0, hu =>
    simp at hu; subst hu
    refine ⟨_, hx, rfl, fun i v hi => ?_⟩
    match i, hi with
    | 0, hi => simp at hi; subst hi; exact cell_cells (i := 0) hG
    | 1, hi => simp at hi; subst hi; exact cell_cells (i := 1) hG
    | 2, hi => simp at hi; subst hi; exact cell_cells (i := 2) hG
    | i + 3, hi => simp at hi
  | 1, hu =>
    simp at hu; subst hu
    refine ⟨_, hy, rfl, fun i v hi => ?_⟩
    match i, hi with
    | 0, hi => simp at hi; subst hi; exact cell_cells (i := 3) hG
    | 1, hi => simp at hi; subst hi; exact cell_cells (i := 4) hG
    | 2, hi => simp at hi; subst hi; exact cell_cells (i := 5) hG
    | i + 3, hi => simp at hi
  | 2, hu =>
    simp at hu; subst hu
    refine ⟨_, hz, rfl, fun i v hi => ?_⟩
    match i, hi with
    | 0, hi => simp at hi; subst hi; exact cell_cells (i := 6) hG
    | 1, hi => simp at hi; subst hi; exact cell_cells (i := 7) hG
    | 2, hi => simp at hi; subst hi; exact cell_cells (i := 8) hG
    | i + 3, hi => simp at hi
  | j + 3, hu => simp at hu
theorem slp2 {α : Type} {w : World} {g B : Nat} {E : α → List Value → Prop} {x y : α} {a0 a1 a2 b0 b1 b2 : Value} {e : TypeId} (hG : w.heap[g]? = some (.cells #[a0, a1, a2, b0, b1, b2] e (0, 0))) (hx : E x [a0, a1, a2]) (hy : E y [b0, b1, b2]) (hB : g < B) :
    SlP w B 3 E (.slice (some ⟨g, 0, none⟩) 2 2) [x, y] := by
  refine ⟨_, 2, rfl, Nat.le_refl _, by simp [Big], fun _ => ⟨_, 0, rfl, hB, fun j u hu => ?_⟩⟩
  match j, hu with
  | 0, hu =>
    simp at hu; subst hu
    refine ⟨_, hx, rfl, fun i v hi => ?_⟩
    match i, hi with
    | 0, hi => simp at hi; subst hi; exact cell_cells (i := 0) hG
    | 1, hi => simp at hi; subst hi; exact cell_cells (i := 1) hG
    | 2, hi => simp at hi; subst hi; exact cell_cells (i := 2) hG
    | i + 3, hi => simp at hi
  | 1, hu =>
    simp at hu; subst hu
    refine ⟨_, hy, rfl, fun i v hi => ?_⟩
    match i, hi with
    | 0, hi => simp at hi; subst hi; exact cell_cells (i := 3) hG
    | 1, hi => simp at hi; subst hi; exact cell_cells (i := 4) hG
    | 2, hi => simp at hi; subst hi; exact cell_cells (i := 5) hG
    | i + 3, hi => simp at hi
  | j + 2, hu => simp at hu
theorem Calls.boolEq {P : Program} {f : FuncId} {args : Array Value} {w : World} {b c : Bool} (h : Calls P f args w fun e w' => e = .returned (.bool b) ∧ Below w.heap.size w w') (hb : b = c) : Calls P f args w fun e w' => e = .returned (.bool c) ∧ Below w.heap.size w w' := hb ▸ h
theorem z_newS {w1 w7 : World} {o : Obj} {a : Array Value} {e : TypeId} (hb : Below ((w1.alloc (.cells a e (0, 0))).alloc o).heap.size ((w1.alloc (.cells a e (0, 0))).alloc o) w7) : w7.heap[w1.heap.size]? = some (.cells a e (0, 0)) := (hb.block _ (by simp; omega)).trans ((heap_old (by simp)).trans (heap_new rfl))
theorem kn_at {W : World} {B : Nat} {t : Tr} {c : List Sp} {ve vk vc : Value} (h : t.rd W B ve vk) (hc : SlP W B 3 SpE vc c) : CaE W B (t, c) [ve, vk, vc] := ⟨_, _, _, rfl, h, hc⟩
end Go.Proofs.YtmphgnjodangcaaGreat
