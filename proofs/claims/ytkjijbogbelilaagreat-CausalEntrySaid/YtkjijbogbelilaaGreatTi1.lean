/- What the laws need, part 1: tributarylaw09.has. Condition: not too big. The law CausalEntry answers true. No condition. Arguments that are lists of texts, or of what is known. No condition. Four arguments, each read by itself. No condition. -/
import Derived.Test.YtkjijbogbelilaaGreatTh3
namespace Go.Proofs.YtkjijbogbelilaaGreat
open Go.RowKit
set_option maxRecDepth 100000

/-- Is there an entry of a dot below keys? -/
def hasAt (t : Tr) (p : List ByteArray) (d : Dt) : Bool := (tgetT t p).es.any fun e => decide (e.dot = d)
set_option maxHeartbeats 2000000 in
theorem has09_any (t : Tr) (c : List Sp) (p : List ByteArray) (d : Dt) (va ka vc vp : Value) (w : World) (h : t.rd w w.heap.size va ka) (hc : SlP w w.heap.size 3 SpE vc c) (hp : SlP w w.heap.size 1 StE vp p) (hN : t.sz ≤ 4000) :
    Calls Tryz.prog 33 #[.agg #[va, ka, vc], vp, .agg #[.int .i64 d.dc, .int .i64 d.n]] w fun e w' => e = .returned (.bool (hasAt t p d)) ∧ Below w.heap.size w w' := by
  have HH : Hid (hasAt t p d = (tgetT t p).es.any fun e => decide (e.dot = d)) := rfl
  obtain ⟨A1, n1, A2, n2, rfl, rfl⟩ := rd_shape h
  obtain ⟨A5, n5, rfl, _⟩ := hc
  have HP0 := hid hp
  obtain ⟨A6, n6, rfl, _⟩ := hp
  have hb0 : Below w.heap.size w ((w.alloc (.cells #[.slice A1 t.es.length n1, .slice A2 t.ks.length n2, .slice A5 c.length n5] 29)).alloc (.cells #[.int .i64 d.dc, .int .i64 d.n] 42)) := ((Below.refl _ w).alloc (Nat.le_refl _) _).alloc (by simp) _
  have HT := hid (rd_below hb0 hb0.size _ _ _ h)
  have HP := hid (HP0.out.imp hb0 hb0.size fun _ _ _ h => h)
  have HB0 := hid hb0
  clear h hb0
  go_enter Tryz.func33, Tryz.ntmps33
  go_wp2_with fail
  refine (tget_any t p _ _ _ _ HT.out HP.out (by omega)).mono ?_
  rintro e w1 ⟨ve, vk, rfl, hrd, hb1⟩
  generalize tgetT t p = G at *
  obtain ⟨A3, n3, A4, n4, rfl, rfl⟩ := rda_shape hrd
  have hs1 := hb1.size
  simp only [World.size_alloc] at hs1
  have hv : Below w1.heap.size w1 (w1.alloc (.cells #[.slice A3 G.es.length n3, .slice A4 G.ks.length n4] 25)) := (Below.refl _ w1).alloc (Nat.le_refl _) _
  have hbw : Below w.heap.size w (w1.alloc (.cells #[.slice A3 G.es.length n3, .slice A4 G.ks.length n4] 25)) := (HB0.out.trans (hb1.mono HB0.out.size)).trans (hv.mono (by omega))
  have HSL := hid (es_slp (rda_rd hrd (fun b hb => hb.2) (Below.refl _ _)))
  have HD : Hid (∀ W, Below (w1.heap.size + 1) (w1.alloc (.cells #[.slice A3 G.es.length n3, .slice A4 G.ks.length n4] 25)) W → W.cell? ⟨w1.heap.size, 0, none⟩ = some (.slice A3 G.es.length n3) ∧ W.cell? ⟨w.heap.size + 1, 0, none⟩ = some (.int .i64 d.dc) ∧ W.cell? ⟨w.heap.size + 1, 1, none⟩ = some (.int .i64 d.n) ∧ Below w1.heap.size w1 W) := fun W hW => by
    have g0 := (hW.block w1.heap.size (by omega)).trans (heap_new rfl)
    have hB : Below w1.heap.size w1 W := hv.trans (hW.mono (by omega))
    have g1 : W.heap[w.heap.size + 1]? = some (.cells #[.int .i64 d.dc, .int .i64 d.n] 42 (0, 0)) := (hB.block _ (by omega)).trans ((hb1.block _ (by simp)).trans (heap_new (by simp)))
    exact ⟨cell_cells (i := 0) g0, cell_cells (i := 0) g1, cell_cells (i := 1) g1, hB⟩
  have HBW := hid hbw
  clear hrd hv hbw hb1
  have gg := guardDot
  go_wp2_with fail
  go_loopw [16] (fun i wr => ∃ k : Nat, k ≤ G.es.length ∧ i = .int .i64 k ∧ Hid (∀ e ∈ G.es.take k, e.dot ≠ d) ∧ Below (w1.heap.size + 1) (w1.alloc (.cells #[.slice A3 G.es.length n3, .slice A4 G.ks.length n4] 25)) wr) (fun i _ => G.es.length - (intOf i).toNat)
  case atStart => exact ⟨0, Nat.zero_le _, rfl, fun e he => by simp at he, Below.refl _ _⟩
  case round =>
    obtain ⟨k, hk, rfl, hno, hb⟩ := hrel
    obtain ⟨c0, c1, c2, hB⟩ := HD.out wr hb
    obtain ⟨_, _, hv, q1, q2, q3⟩ := id HSL.out
    cases hv
    by_cases hlt : k < G.es.length
    · obtain ⟨x, hx⟩ : ∃ x, G.es[k]? = some x := ⟨_, List.getElem?_eq_getElem hlt⟩
      obtain ⟨b, off, rfl, hbB, hcc⟩ := q3 (by intro e; rw [e] at hlt; simp at hlt)
      obtain ⟨cs, ⟨rfl, _⟩, _, hu⟩ := hcc k _ hx
      have e0 : wr.cell? ⟨b, off + k * 4, none⟩ = some (.int .i64 x.dc) := (hB.cell hbB).trans (hu 0 _ rfl)
      have e1 : wr.cell? ⟨b, off + k * 4 + 1, none⟩ = some (.int .i64 x.n) := (hB.cell hbB).trans (hu 1 _ rfl)
      have nn := eqlDot x.dot d
      have hmem := hid (List.mem_of_getElem? hx)
      have HTK : Hid (G.es.take (k + 1) = G.es.take k ++ [x]) := by unfold Hid; rw [List.take_add_one, hx]; rfl
      have hi1 : ((k : Int)) < (G.es.length : Int) := by omega
      unfold Big at q2
      clear hu hcc hx q3
      cases hd : decide (x.dot = d)
      · have HN := hid (of_decide_eq_false hd)
        rw [hd] at nn
        simp only [En.dot] at nn
        clear hd
        go_wp2_with fail
        go_quiet (fail)
        go_wp2_with fail
        go_roundw
        case rel =>
          refine ⟨k + 1, by omega, by go_num, fun e he => ?_, below_drewN hb nq⟩
          rw [HTK.out] at he
          rcases List.mem_append.1 he with he | he
          · exact hno.out e he
          · simp at he; subst he; exact HN.out
        case measure => simp [intOf]; omega
      · have HN := hid (of_decide_eq_true hd)
        rw [hd] at nn
        simp only [En.dot] at nn
        clear hd
        go_wp2_with fail
        go_quiet (fail)
        go_wp2_with fail
        go_ret
        exact ⟨ret_bool (by rw [HH.out, eq_comm, List.any_eq_true]; exact ⟨x, hmem.out, by simp [HN.out]⟩), HBW.out.trans ((below_drewN hb nq).mono (by omega))⟩
    · obtain rfl : k = G.es.length := by omega
      rw [List.take_of_length_le (Nat.le_refl _)] at hno
      go_wp2_with fail
      go_ret
      exact ⟨ret_bool (by rw [HH.out, eq_comm, List.any_eq_false]; exact fun e he => by simpa using hno.out e he), HBW.out.trans (hb.mono (by omega))⟩
end Go.Proofs.YtkjijbogbelilaaGreat

namespace Go.Proofs.YtkjijbogbelilaaGreat
open Go.RowKit
set_option maxRecDepth 100000

theorem mem_getK : ∀ (p : List ByteArray) {t : Tr}, t.Ord → ∀ {qs : List ByteArray} {e : En}, ((qs, e) : Lf) ∈ (getK t p).lvs [] ↔ ((p ++ qs, e) : Lf) ∈ t.lvs []
  | [], _, _, _, _ => Iff.rfl
  | k :: p, t, h, qs, e => by
    show ((qs, e) : Lf) ∈ (getK (kidT t k) p).lvs [] ↔ _
    rw [mem_getK p (kidT_ord h k), mem_kidT h]; rfl
theorem has_st {t : Tr} {c : List Sp} (h : CaOk t c) (p : List ByteArray) (d : Dt) : hasAt t p d = (stE t p d).isSome := by
  have hr := (right_iff h.ord).2 h.leaf
  unfold hasAt tgetT
  rw [hr, if_pos rfl, Bool.eq_iff_iff, List.any_eq_true, Option.isSome_iff_exists]
  constructor
  · rintro ⟨e, he, hd⟩
    have := (mem_getK p h.ord).1 (mem_es.2 he)
    rw [List.append_nil] at this
    exact ⟨e, (stE_some h.ord).2 ⟨this, by simpa using hd⟩⟩
  · rintro ⟨e, he⟩
    obtain ⟨h1, h2⟩ := (stE_some h.ord).1 he
    exact ⟨e, mem_es.1 ((mem_getK p h.ord).2 (by rw [List.append_nil]; exact h1)), by simpa using h2⟩
theorem cn_plain {a b : Tr} {ac bc : List Sp} (h : ([(a, ac), (b, bc)] : List Kn).all (fun x => caR x.1 x.2) = true) (z1 : a.sz ≤ 40) (_ : ac.length ≤ 40) (z3 : b.sz ≤ 40) (_ : bc.length ≤ 40) (p : List ByteArray) (d : Dt) :
    ∃ (T : Tr) (C : List Sp) (P Q KA KB : Bool), Hid (jnT a b ac bc = T) ∧ Hid (jnC a b ac bc = C) ∧ Hid (hasAt a p d = P) ∧ Hid (hasAt b p d = Q) ∧ Hid (hasC ac d = KA) ∧ Hid (hasC bc d = KB) ∧ Hid (hasAt T p d = (P && Q || (P && !KB || Q && !KA))) ∧ T.sz ≤ 80 := by
  have h1 := car_two h
  rw [Bool.and_eq_true] at h1
  have ha : KOk (a, ac) := caR_iff.1 h1.1
  have hb : KOk (b, bc) := caR_iff.1 h1.2
  obtain ⟨_, j2, j3⟩ := jn_ok ha hb
  have s := jn_sz ha hb
  simp only at s
  refine ⟨(jn (a, ac) (b, bc)).1, (jn (a, ac) (b, bc)).2, _, _, _, _, j2, j3, rfl, rfl, rfl, rfl, ?_, by omega⟩
  unfold Hid
  rw [has_st (jn_okK ha hb), has_st ha, has_st hb]
  have e := stE_join ha hb p d
  have e' : stE (jn (a, ac) (b, bc)).1 p d = jnO (stE a p d) (hasC ac d) (stE b p d) (hasC bc d) := e
  rw [e']
  cases stE a p d <;> cases stE b p d <;> cases hasC ac d <;> cases hasC bc d <;> rfl
set_option maxHeartbeats 4000000 in
theorem lawCN_any (a : Tr) (ac : List Sp) (b : Tr) (bc : List Sp) (p : List ByteArray) (d : Dt) (w : World) (ve0 vk0 vc0 ve1 vk1 vc1 vl2 : Value) (h0 : a.rd w w.heap.size ve0 vk0) (hc0 : SlP w w.heap.size 3 SpE vc0 ac) (h1 : b.rd w w.heap.size ve1 vk1) (hc1 : SlP w w.heap.size 3 SpE vc1 bc) (h2 : SlP w w.heap.size 1 StE vl2 p) (_ : d.Ok) :
    Calls Tryz.prog 6 #[.agg #[ve0, vk0, vc0], .agg #[ve1, vk1, vc1], vl2, .agg #[.int .i64 d.dc, .int .i64 d.n]] w fun e w' => e = .returned (.bool true) ∧ Below w.heap.size w w' := by
  have HC0 : Hid (∀ w', Below w.heap.size w w' → a.rd w' w'.heap.size ve0 vk0) := fun w' hb => rd_below hb hb.size _ _ _ h0
  have HD0 : Hid (∀ w', Below w.heap.size w w' → SlP w' w'.heap.size 3 SpE vc0 ac) := fun w' hb => hc0.imp hb hb.size fun _ _ _ h => h
  obtain ⟨A0, n0, B0, m0, rfl, rfl⟩ := rd_shape h0
  obtain ⟨D0, k0, rfl, _⟩ := hc0
  clear h0
  have HC1 : Hid (∀ w', Below w.heap.size w w' → b.rd w' w'.heap.size ve1 vk1) := fun w' hb => rd_below hb hb.size _ _ _ h1
  have HD1 : Hid (∀ w', Below w.heap.size w w' → SlP w' w'.heap.size 3 SpE vc1 bc) := fun w' hb => hc1.imp hb hb.size fun _ _ _ h => h
  obtain ⟨A1, n1, B1, m1, rfl, rfl⟩ := rd_shape h1
  obtain ⟨D1, k1, rfl, _⟩ := hc1
  clear h1
  have HC2 : Hid (∀ w', Below w.heap.size w w' → SlP w' w'.heap.size 1 StE vl2 p) := fun w' hb => h2.imp hb hb.size fun _ _ _ h => h
  obtain ⟨A2, n2, rfl, _⟩ := h2
  have HX0 : Hid (∀ W, Below (w.heap.size + 3) (((w.alloc (.cells #[.slice A0 a.es.length n0, .slice B0 a.ks.length m0, .slice D0 ac.length k0] 29)).alloc (.cells #[.slice A1 b.es.length n1, .slice B1 b.ks.length m1, .slice D1 bc.length k1] 29)).alloc (.cells #[.int .i64 d.dc, .int .i64 d.n] 42)) W → (Below w.heap.size w W ∧ w.heap.size + 3 ≤ (W).heap.size ∧ a.rd W (W).heap.size (.slice A0 a.es.length n0) (.slice B0 a.ks.length m0) ∧ SlP W (W).heap.size 3 SpE (.slice D0 ac.length k0) ac ∧ b.rd W (W).heap.size (.slice A1 b.es.length n1) (.slice B1 b.ks.length m1) ∧ SlP W (W).heap.size 3 SpE (.slice D1 bc.length k1) bc ∧ SlP W (W).heap.size 1 StE (.slice A2 p.length n2) p ∧ (W).cell? ⟨w.heap.size, 0, none⟩ = some (.slice A0 a.es.length n0) ∧ (W).cell? ⟨w.heap.size, 1, none⟩ = some (.slice B0 a.ks.length m0) ∧ (W).cell? ⟨w.heap.size, 2, none⟩ = some (.slice D0 ac.length k0) ∧ (W).cell? ⟨(w.heap.size + 1), 0, none⟩ = some (.slice A1 b.es.length n1) ∧ (W).cell? ⟨(w.heap.size + 1), 1, none⟩ = some (.slice B1 b.ks.length m1) ∧ (W).cell? ⟨(w.heap.size + 1), 2, none⟩ = some (.slice D1 bc.length k1) ∧ (W).cell? ⟨(w.heap.size + 2), 0, none⟩ = some (.int .i64 d.dc) ∧ (W).cell? ⟨(w.heap.size + 2), 1, none⟩ = some (.int .i64 d.n))) := fun W hW => by
    have g0 : W.heap[w.heap.size]? = some (.cells #[.slice A0 a.es.length n0, .slice B0 a.ks.length m0, .slice D0 ac.length k0] 29 (0, 0)) := (hW.block _ (by omega)).trans ((heap_old (by simp <;> omega)).trans ((heap_old (by simp <;> omega)).trans (heap_new rfl)))
    have g1 : W.heap[(w.heap.size + 1)]? = some (.cells #[.slice A1 b.es.length n1, .slice B1 b.ks.length m1, .slice D1 bc.length k1] 29 (0, 0)) := (hW.block _ (by omega)).trans ((heap_old (by simp <;> omega)).trans (heap_new (by simp)))
    have g2 : W.heap[(w.heap.size + 2)]? = some (.cells #[.int .i64 d.dc, .int .i64 d.n] 42 (0, 0)) := (hW.block _ (by omega)).trans (heap_new (by simp))
    have hB : Below w.heap.size w W := ((((Below.refl _ w).alloc (Nat.le_refl _) _).alloc (by simp <;> omega) _).alloc (by simp <;> omega) _).trans (hW.mono (by omega))
    exact ⟨hB, by have := hW.size; simpa using this, HC0.out _ hB, HD0.out _ hB, HC1.out _ hB, HD1.out _ hB, HC2.out _ hB, cell_cells (i := 0) g0, cell_cells (i := 1) g0, cell_cells (i := 2) g0, cell_cells (i := 0) g1, cell_cells (i := 1) g1, cell_cells (i := 2) g1, cell_cells (i := 0) g2, cell_cells (i := 1) g2⟩
  have hnb1 : w.heap.size + 1 ≠ w.heap.size := by omega
  have hnb2 : w.heap.size + 2 ≠ w.heap.size := by omega
  go_enter Tryz.func6, Tryz.ntmps6
  obtain ⟨SM, HSM⟩ : ∃ q : Bool, Hid (([(a, ac), (b, bc)] : List Kn).all (fun x => sml9 x.1 x.2 40) = q) := ⟨_, rfl⟩
  obtain ⟨RM, HRM⟩ : ∃ q : Bool, Hid (([(a, ac), (b, bc)] : List Kn).all (fun x => caR x.1 x.2) = q) := ⟨_, rfl⟩
  go_wp2_with fail
  obtain ⟨hB, hs, rt0, rc0, rt1, rc1, rl2, c00, c01, c02, c10, c11, c12, c30, c31⟩ := HX0.out _ (Below.refl _ _)
  refine (awake09_any _).mono ?_
  rintro e w1 ⟨rfl, hb⟩
  have hbk1 : Hid (Below (w.heap.size + 3) (((w.alloc (.cells #[.slice A0 a.es.length n0, .slice B0 a.ks.length m0, .slice D0 ac.length k0] 29)).alloc (.cells #[.slice A1 b.es.length n1, .slice B1 b.ks.length m1, .slice D1 bc.length k1] 29)).alloc (.cells #[.int .i64 d.dc, .int .i64 d.n] 42)) w1) := hid (hb.mono (by first | omega | (simp; done) | (simp; omega)))
  clear hb
  clear hB hs rt0 rc0 rt1 rc1 rl2 c00 c01 c02 c10 c11 c12 c30 c31
  obtain ⟨hB, hs, rt0, rc0, rt1, rc1, rl2, c00, c01, c02, c10, c11, c12, c30, c31⟩ := HX0.out _ hbk1.out
  go_wp2_with fail
  have hsl_le : (w.heap.size + 3) ≤ (w1).heap.size := (by first | omega | (simp; done) | (simp; omega))
  clear hB hs rt0 rc0 rt1 rc1 rl2 c00 c01 c02 c10 c11 c12 c30 c31
  obtain ⟨hB, hs, rt0, rc0, rt1, rc1, rl2, c00, c01, c02, c10, c11, c12, c30, c31⟩ := HX0.out _ (hbk1.out.alloc hsl_le (.cells #[.slice A0 a.es.length n0, .slice B0 a.ks.length m0, .slice D0 ac.length k0, .slice A1 b.es.length n1, .slice B1 b.ks.length m1, .slice D1 bc.length k1] 29))
  refine (small09_any [(a, ac), (b, bc)] _ _ (slp2 (heap_new rfl) (kn_at rt0 rc0) (kn_at rt1 rc1) (by simp))).mono ?_
  rw [HSM.out]
  rintro e w2 ⟨rfl, hb⟩
  have hbk2 : Hid (Below (w.heap.size + 3) (((w.alloc (.cells #[.slice A0 a.es.length n0, .slice B0 a.ks.length m0, .slice D0 ac.length k0] 29)).alloc (.cells #[.slice A1 b.es.length n1, .slice B1 b.ks.length m1, .slice D1 bc.length k1] 29)).alloc (.cells #[.int .i64 d.dc, .int .i64 d.n] 42)) w2) := hid ((hbk1.out.alloc hsl_le (.cells #[.slice A0 a.es.length n0, .slice B0 a.ks.length m0, .slice D0 ac.length k0, .slice A1 b.es.length n1, .slice B1 b.ks.length m1, .slice D1 bc.length k1] 29)).trans (hb.mono (by first | omega | (simp; done) | (simp; omega))))
  clear hb
  clear hB hs rt0 rc0 rt1 rc1 rl2 c00 c01 c02 c10 c11 c12 c30 c31
  obtain ⟨hB, hs, rt0, rc0, rt1, rc1, rl2, c00, c01, c02, c10, c11, c12, c30, c31⟩ := HX0.out _ hbk2.out
  cases SM
  · skip
    go_wp2_with fail
    refine (awake09_any _).mono ?_
    rintro e w3 ⟨rfl, hb⟩
    have hbk3 : Hid (Below (w.heap.size + 3) (((w.alloc (.cells #[.slice A0 a.es.length n0, .slice B0 a.ks.length m0, .slice D0 ac.length k0] 29)).alloc (.cells #[.slice A1 b.es.length n1, .slice B1 b.ks.length m1, .slice D1 bc.length k1] 29)).alloc (.cells #[.int .i64 d.dc, .int .i64 d.n] 42)) w3) := hid (hbk2.out.trans (hb.mono (by first | omega | (simp; done) | (simp; omega))))
    clear hb
    clear hB hs rt0 rc0 rt1 rc1 rl2 c00 c01 c02 c10 c11 c12 c30 c31
    obtain ⟨hB, hs, rt0, rc0, rt1, rc1, rl2, c00, c01, c02, c10, c11, c12, c30, c31⟩ := HX0.out _ hbk3.out
    go_wp2_with fail
    go_ret
    exact ⟨rfl, hB⟩
  obtain ⟨⟨z1, z2⟩, z3, z4⟩ := sml_all2 HSM.out
  simp only at z1 z2 z3 z4
  go_wp2_with fail
  have hsl_le : (w.heap.size + 3) ≤ (w2).heap.size := (by first | omega | (simp; done) | (simp; omega))
  clear hB hs rt0 rc0 rt1 rc1 rl2 c00 c01 c02 c10 c11 c12 c30 c31
  obtain ⟨hB, hs, rt0, rc0, rt1, rc1, rl2, c00, c01, c02, c10, c11, c12, c30, c31⟩ := HX0.out _ (hbk2.out.alloc hsl_le (.cells #[.slice A0 a.es.length n0, .slice B0 a.ks.length m0, .slice D0 ac.length k0, .slice A1 b.es.length n1, .slice B1 b.ks.length m1, .slice D1 bc.length k1] 29))
  refine (right09_any [(a, ac), (b, bc)] _ _ (slp2 (heap_new rfl) (kn_at rt0 rc0) (kn_at rt1 rc1) (by simp)) (fun x hx => by simp at hx; rcases hx with rfl | rfl <;> exact ⟨by simp only; omega, by simp only; omega⟩)).mono ?_
  rw [HRM.out]
  rintro e w3 ⟨rfl, hb⟩
  have hbk3 : Hid (Below (w.heap.size + 3) (((w.alloc (.cells #[.slice A0 a.es.length n0, .slice B0 a.ks.length m0, .slice D0 ac.length k0] 29)).alloc (.cells #[.slice A1 b.es.length n1, .slice B1 b.ks.length m1, .slice D1 bc.length k1] 29)).alloc (.cells #[.int .i64 d.dc, .int .i64 d.n] 42)) w3) := hid ((hbk2.out.alloc hsl_le (.cells #[.slice A0 a.es.length n0, .slice B0 a.ks.length m0, .slice D0 ac.length k0, .slice A1 b.es.length n1, .slice B1 b.ks.length m1, .slice D1 bc.length k1] 29)).trans (hb.mono (by first | omega | (simp; done) | (simp; omega))))
  clear hb
  clear hB hs rt0 rc0 rt1 rc1 rl2 c00 c01 c02 c10 c11 c12 c30 c31
  obtain ⟨hB, hs, rt0, rc0, rt1, rc1, rl2, c00, c01, c02, c10, c11, c12, c30, c31⟩ := HX0.out _ hbk3.out
  cases RM
  · skip
    go_wp2_with fail
    refine (awake09_any _).mono ?_
    rintro e w4 ⟨rfl, hb⟩
    have hbk4 : Hid (Below (w.heap.size + 3) (((w.alloc (.cells #[.slice A0 a.es.length n0, .slice B0 a.ks.length m0, .slice D0 ac.length k0] 29)).alloc (.cells #[.slice A1 b.es.length n1, .slice B1 b.ks.length m1, .slice D1 bc.length k1] 29)).alloc (.cells #[.int .i64 d.dc, .int .i64 d.n] 42)) w4) := hid (hbk3.out.trans (hb.mono (by first | omega | (simp; done) | (simp; omega))))
    clear hb
    clear hB hs rt0 rc0 rt1 rc1 rl2 c00 c01 c02 c10 c11 c12 c30 c31
    obtain ⟨hB, hs, rt0, rc0, rt1, rc1, rl2, c00, c01, c02, c10, c11, c12, c30, c31⟩ := HX0.out _ hbk4.out
    go_wp2_with fail
    go_ret
    exact ⟨rfl, hB⟩
  by_cases h20 : 20 < p.length
  · have h20' : decide (20 < p.length) = true := by simpa using h20
    go_wp2_with fail
    refine (awake09_any _).mono ?_
    rintro e w4 ⟨rfl, hb⟩
    have hbk4 : Hid (Below (w.heap.size + 3) (((w.alloc (.cells #[.slice A0 a.es.length n0, .slice B0 a.ks.length m0, .slice D0 ac.length k0] 29)).alloc (.cells #[.slice A1 b.es.length n1, .slice B1 b.ks.length m1, .slice D1 bc.length k1] 29)).alloc (.cells #[.int .i64 d.dc, .int .i64 d.n] 42)) w4) := hid (hbk3.out.trans (hb.mono (by first | omega | (simp; done) | (simp; omega))))
    clear hb
    clear hB hs rt0 rc0 rt1 rc1 rl2 c00 c01 c02 c10 c11 c12 c30 c31
    obtain ⟨hB, hs, rt0, rc0, rt1, rc1, rl2, c00, c01, c02, c10, c11, c12, c30, c31⟩ := HX0.out _ hbk4.out
    go_wp2_with fail
    go_ret
    exact ⟨rfl, hB⟩
  · have h20' : decide (20 < p.length) = false := by simpa using h20
    obtain ⟨T, C, P, Q, KA, KB, HJT, HJC, HP, HQ, HKA, HKB, HW, v1⟩ := cn_plain HRM.out z1 z2 z3 z4 p d
    cases P
    · cases Q
      · skip
        go_upto_region 3 with (fail)
        have HK1 : Hid (∀ W, Below (w.heap.size + 3) (((w.alloc (.cells #[.slice A0 a.es.length n0, .slice B0 a.ks.length m0, .slice D0 ac.length k0] 29)).alloc (.cells #[.slice A1 b.es.length n1, .slice B1 b.ks.length m1, .slice D1 bc.length k1] 29)).alloc (.cells #[.int .i64 d.dc, .int .i64 d.n] 42)) W → ((W).cell? ⟨w.heap.size, 0, none⟩ = some (.slice A0 a.es.length n0) ∧ (W).cell? ⟨w.heap.size, 1, none⟩ = some (.slice B0 a.ks.length m0) ∧ (W).cell? ⟨w.heap.size, 2, none⟩ = some (.slice D0 ac.length k0) ∧ (W).cell? ⟨(w.heap.size + 1), 0, none⟩ = some (.slice A1 b.es.length n1) ∧ (W).cell? ⟨(w.heap.size + 1), 1, none⟩ = some (.slice B1 b.ks.length m1) ∧ (W).cell? ⟨(w.heap.size + 1), 2, none⟩ = some (.slice D1 bc.length k1) ∧ (W).cell? ⟨(w.heap.size + 2), 0, none⟩ = some (.int .i64 d.dc) ∧ (W).cell? ⟨(w.heap.size + 2), 1, none⟩ = some (.int .i64 d.n))) := fun W hW => by
          obtain ⟨_, _, _, _, _, _, _, z_c00, z_c01, z_c02, z_c10, z_c11, z_c12, z_c30, z_c31⟩ := HX0.out W hW
          exact ⟨z_c00, z_c01, z_c02, z_c10, z_c11, z_c12, z_c30, z_c31⟩
        have Hrt0_1 : Hid (∀ W, Below (w.heap.size + 3) (((w.alloc (.cells #[.slice A0 a.es.length n0, .slice B0 a.ks.length m0, .slice D0 ac.length k0] 29)).alloc (.cells #[.slice A1 b.es.length n1, .slice B1 b.ks.length m1, .slice D1 bc.length k1] 29)).alloc (.cells #[.int .i64 d.dc, .int .i64 d.n] 42)) W → a.rd W (W).heap.size (.slice A0 a.es.length n0) (.slice B0 a.ks.length m0)) := fun W hW => by
          obtain ⟨_, _, z, _, _, _, _, _, _, _, _, _, _, _, _⟩ := HX0.out W hW
          exact z
        have Hrc0_1 : Hid (∀ W, Below (w.heap.size + 3) (((w.alloc (.cells #[.slice A0 a.es.length n0, .slice B0 a.ks.length m0, .slice D0 ac.length k0] 29)).alloc (.cells #[.slice A1 b.es.length n1, .slice B1 b.ks.length m1, .slice D1 bc.length k1] 29)).alloc (.cells #[.int .i64 d.dc, .int .i64 d.n] 42)) W → SlP W (W).heap.size 3 SpE (.slice D0 ac.length k0) ac) := fun W hW => by
          obtain ⟨_, _, _, z, _, _, _, _, _, _, _, _, _, _, _⟩ := HX0.out W hW
          exact z
        have Hrt1_1 : Hid (∀ W, Below (w.heap.size + 3) (((w.alloc (.cells #[.slice A0 a.es.length n0, .slice B0 a.ks.length m0, .slice D0 ac.length k0] 29)).alloc (.cells #[.slice A1 b.es.length n1, .slice B1 b.ks.length m1, .slice D1 bc.length k1] 29)).alloc (.cells #[.int .i64 d.dc, .int .i64 d.n] 42)) W → b.rd W (W).heap.size (.slice A1 b.es.length n1) (.slice B1 b.ks.length m1)) := fun W hW => by
          obtain ⟨_, _, _, _, z, _, _, _, _, _, _, _, _, _, _⟩ := HX0.out W hW
          exact z
        have Hrc1_1 : Hid (∀ W, Below (w.heap.size + 3) (((w.alloc (.cells #[.slice A0 a.es.length n0, .slice B0 a.ks.length m0, .slice D0 ac.length k0] 29)).alloc (.cells #[.slice A1 b.es.length n1, .slice B1 b.ks.length m1, .slice D1 bc.length k1] 29)).alloc (.cells #[.int .i64 d.dc, .int .i64 d.n] 42)) W → SlP W (W).heap.size 3 SpE (.slice D1 bc.length k1) bc) := fun W hW => by
          obtain ⟨_, _, _, _, _, z, _, _, _, _, _, _, _, _, _⟩ := HX0.out W hW
          exact z
        have Hrl2_1 : Hid (∀ W, Below (w.heap.size + 3) (((w.alloc (.cells #[.slice A0 a.es.length n0, .slice B0 a.ks.length m0, .slice D0 ac.length k0] 29)).alloc (.cells #[.slice A1 b.es.length n1, .slice B1 b.ks.length m1, .slice D1 bc.length k1] 29)).alloc (.cells #[.int .i64 d.dc, .int .i64 d.n] 42)) W → SlP W (W).heap.size 1 StE (.slice A2 p.length n2) p) := fun W hW => by
          obtain ⟨_, _, _, _, _, _, z, _, _, _, _, _, _, _, _⟩ := HX0.out W hW
          exact z
        have HS_1 : Hid (∀ W, Below (w.heap.size + 3) (((w.alloc (.cells #[.slice A0 a.es.length n0, .slice B0 a.ks.length m0, .slice D0 ac.length k0] 29)).alloc (.cells #[.slice A1 b.es.length n1, .slice B1 b.ks.length m1, .slice D1 bc.length k1] 29)).alloc (.cells #[.int .i64 d.dc, .int .i64 d.n] 42)) W → (w.heap.size + 3) ≤ W.heap.size) := fun W hW => by
          have := hW.size
          first | omega | (simp at this; omega)
        have hsb1 := HS_1.out _ hbk3.out
        clear hB rt0 rc0 rt1 rc1 rl2
        go_region_held3 (fun W => (W).cell? ⟨w.heap.size, 0, none⟩ = some (.slice A0 a.es.length n0) ∧ (W).cell? ⟨w.heap.size, 1, none⟩ = some (.slice B0 a.ks.length m0) ∧ (W).cell? ⟨w.heap.size, 2, none⟩ = some (.slice D0 ac.length k0) ∧ (W).cell? ⟨(w.heap.size + 1), 0, none⟩ = some (.slice A1 b.es.length n1) ∧ (W).cell? ⟨(w.heap.size + 1), 1, none⟩ = some (.slice B1 b.ks.length m1) ∧ (W).cell? ⟨(w.heap.size + 1), 2, none⟩ = some (.slice D1 bc.length k1) ∧ (W).cell? ⟨(w.heap.size + 2), 0, none⟩ = some (.int .i64 d.dc) ∧ (W).cell? ⟨(w.heap.size + 2), 1, none⟩ = some (.int .i64 d.n))
          (first | go_keep | exact HK1.out _ hbr5.out | exact HK1.out _ (hbr5.out.trans (by go_grown)) | exact HK1.out _ hbr4.out | exact HK1.out _ (hbr4.out.trans (by go_grown)) | exact HK1.out _ (((hbr5.out.setCell (by first | (simp; done) | (simp; omega)) _).setCell (by first | (simp; done) | (simp; omega)) _).setCell (by first | (simp; done) | (simp; omega)) _) | exact HK1.out _ (hbk3.out.trans (by go_grown)) | fail)
          (first
            | (go_at_call 33; go_loud ((refine (has09_any b bc p d _ _ _ _ _ (Hrt1_1.out _ (hbr4.out.trans (by go_grown))) (Hrc1_1.out _ (hbr4.out.trans (by go_grown))) (Hrl2_1.out _ (hbr4.out.trans (by go_grown))) (by omega)).mono ?_); rw [HQ.out]; rintro e w5 ⟨rfl, hb⟩; have hbr5 : Hid (Below (w.heap.size + 3) (((w.alloc (.cells #[.slice A0 a.es.length n0, .slice B0 a.ks.length m0, .slice D0 ac.length k0] 29)).alloc (.cells #[.slice A1 b.es.length n1, .slice B1 b.ks.length m1, .slice D1 bc.length k1] 29)).alloc (.cells #[.int .i64 d.dc, .int .i64 d.n] 42)) w5) := hid (Below.trans (hbr4.out.trans (by go_grown)) (hb.mono (by first | omega | (simp; done) | (simp; omega)))); have hsr5 := HS_1.out _ hbr5.out; have hch4_5 : Hid (Below w4.heap.size w4 w5) := hid (Below.trans (by go_grown) (hb.mono (by first | omega | (simp; done) | (simp; omega)))); clear hb))
            | (go_at_call 33; go_loud ((refine (has09_any a ac p d _ _ _ _ _ (Hrt0_1.out _ (hbk3.out.trans (by go_grown))) (Hrc0_1.out _ (hbk3.out.trans (by go_grown))) (Hrl2_1.out _ (hbk3.out.trans (by go_grown))) (by omega)).mono ?_); rw [HP.out]; rintro e w4 ⟨rfl, hb⟩; have hbr4 : Hid (Below (w.heap.size + 3) (((w.alloc (.cells #[.slice A0 a.es.length n0, .slice B0 a.ks.length m0, .slice D0 ac.length k0] 29)).alloc (.cells #[.slice A1 b.es.length n1, .slice B1 b.ks.length m1, .slice D1 bc.length k1] 29)).alloc (.cells #[.int .i64 d.dc, .int .i64 d.n] 42)) w4) := hid (Below.trans (hbk3.out.trans (by go_grown)) (hb.mono (by first | omega | (simp; done) | (simp; omega)))); have hsr4 := HS_1.out _ hbr4.out; clear hb)))
        clear hs c00 c01 c02 c10 c11 c12 c30 c31
        obtain ⟨hB, hs, rt0, rc0, rt1, rc1, rl2, c00, c01, c02, c10, c11, c12, c30, c31⟩ := HX0.out _ hbr5.out
        go_upto_region 5 with (fail)
        have HK2 : Hid (∀ W, Below (w.heap.size + 3) (((w.alloc (.cells #[.slice A0 a.es.length n0, .slice B0 a.ks.length m0, .slice D0 ac.length k0] 29)).alloc (.cells #[.slice A1 b.es.length n1, .slice B1 b.ks.length m1, .slice D1 bc.length k1] 29)).alloc (.cells #[.int .i64 d.dc, .int .i64 d.n] 42)) W → ((W).cell? ⟨w.heap.size, 0, none⟩ = some (.slice A0 a.es.length n0) ∧ (W).cell? ⟨w.heap.size, 1, none⟩ = some (.slice B0 a.ks.length m0) ∧ (W).cell? ⟨w.heap.size, 2, none⟩ = some (.slice D0 ac.length k0) ∧ (W).cell? ⟨(w.heap.size + 1), 0, none⟩ = some (.slice A1 b.es.length n1) ∧ (W).cell? ⟨(w.heap.size + 1), 1, none⟩ = some (.slice B1 b.ks.length m1) ∧ (W).cell? ⟨(w.heap.size + 1), 2, none⟩ = some (.slice D1 bc.length k1) ∧ (W).cell? ⟨(w.heap.size + 2), 0, none⟩ = some (.int .i64 d.dc) ∧ (W).cell? ⟨(w.heap.size + 2), 1, none⟩ = some (.int .i64 d.n))) := fun W hW => by
          obtain ⟨_, _, _, _, _, _, _, z_c00, z_c01, z_c02, z_c10, z_c11, z_c12, z_c30, z_c31⟩ := HX0.out W hW
          exact ⟨z_c00, z_c01, z_c02, z_c10, z_c11, z_c12, z_c30, z_c31⟩
        have Hrt0_2 : Hid (∀ W, Below (w.heap.size + 3) (((w.alloc (.cells #[.slice A0 a.es.length n0, .slice B0 a.ks.length m0, .slice D0 ac.length k0] 29)).alloc (.cells #[.slice A1 b.es.length n1, .slice B1 b.ks.length m1, .slice D1 bc.length k1] 29)).alloc (.cells #[.int .i64 d.dc, .int .i64 d.n] 42)) W → a.rd W (W).heap.size (.slice A0 a.es.length n0) (.slice B0 a.ks.length m0)) := fun W hW => by
          obtain ⟨_, _, z, _, _, _, _, _, _, _, _, _, _, _, _⟩ := HX0.out W hW
          exact z
        have Hrc0_2 : Hid (∀ W, Below (w.heap.size + 3) (((w.alloc (.cells #[.slice A0 a.es.length n0, .slice B0 a.ks.length m0, .slice D0 ac.length k0] 29)).alloc (.cells #[.slice A1 b.es.length n1, .slice B1 b.ks.length m1, .slice D1 bc.length k1] 29)).alloc (.cells #[.int .i64 d.dc, .int .i64 d.n] 42)) W → SlP W (W).heap.size 3 SpE (.slice D0 ac.length k0) ac) := fun W hW => by
          obtain ⟨_, _, _, z, _, _, _, _, _, _, _, _, _, _, _⟩ := HX0.out W hW
          exact z
        have Hrt1_2 : Hid (∀ W, Below (w.heap.size + 3) (((w.alloc (.cells #[.slice A0 a.es.length n0, .slice B0 a.ks.length m0, .slice D0 ac.length k0] 29)).alloc (.cells #[.slice A1 b.es.length n1, .slice B1 b.ks.length m1, .slice D1 bc.length k1] 29)).alloc (.cells #[.int .i64 d.dc, .int .i64 d.n] 42)) W → b.rd W (W).heap.size (.slice A1 b.es.length n1) (.slice B1 b.ks.length m1)) := fun W hW => by
          obtain ⟨_, _, _, _, z, _, _, _, _, _, _, _, _, _, _⟩ := HX0.out W hW
          exact z
        have Hrc1_2 : Hid (∀ W, Below (w.heap.size + 3) (((w.alloc (.cells #[.slice A0 a.es.length n0, .slice B0 a.ks.length m0, .slice D0 ac.length k0] 29)).alloc (.cells #[.slice A1 b.es.length n1, .slice B1 b.ks.length m1, .slice D1 bc.length k1] 29)).alloc (.cells #[.int .i64 d.dc, .int .i64 d.n] 42)) W → SlP W (W).heap.size 3 SpE (.slice D1 bc.length k1) bc) := fun W hW => by
          obtain ⟨_, _, _, _, _, z, _, _, _, _, _, _, _, _, _⟩ := HX0.out W hW
          exact z
        have Hrl2_2 : Hid (∀ W, Below (w.heap.size + 3) (((w.alloc (.cells #[.slice A0 a.es.length n0, .slice B0 a.ks.length m0, .slice D0 ac.length k0] 29)).alloc (.cells #[.slice A1 b.es.length n1, .slice B1 b.ks.length m1, .slice D1 bc.length k1] 29)).alloc (.cells #[.int .i64 d.dc, .int .i64 d.n] 42)) W → SlP W (W).heap.size 1 StE (.slice A2 p.length n2) p) := fun W hW => by
          obtain ⟨_, _, _, _, _, _, z, _, _, _, _, _, _, _, _⟩ := HX0.out W hW
          exact z
        have HS_2 : Hid (∀ W, Below (w.heap.size + 3) (((w.alloc (.cells #[.slice A0 a.es.length n0, .slice B0 a.ks.length m0, .slice D0 ac.length k0] 29)).alloc (.cells #[.slice A1 b.es.length n1, .slice B1 b.ks.length m1, .slice D1 bc.length k1] 29)).alloc (.cells #[.int .i64 d.dc, .int .i64 d.n] 42)) W → (w.heap.size + 3) ≤ W.heap.size) := fun W hW => by
          have := hW.size
          first | omega | (simp at this; omega)
        have hsb2 := HS_2.out _ hbr5.out
        clear hB rt0 rc0 rt1 rc1 rl2
        go_region_held3 (fun W => (W).cell? ⟨w.heap.size, 0, none⟩ = some (.slice A0 a.es.length n0) ∧ (W).cell? ⟨w.heap.size, 1, none⟩ = some (.slice B0 a.ks.length m0) ∧ (W).cell? ⟨w.heap.size, 2, none⟩ = some (.slice D0 ac.length k0) ∧ (W).cell? ⟨(w.heap.size + 1), 0, none⟩ = some (.slice A1 b.es.length n1) ∧ (W).cell? ⟨(w.heap.size + 1), 1, none⟩ = some (.slice B1 b.ks.length m1) ∧ (W).cell? ⟨(w.heap.size + 1), 2, none⟩ = some (.slice D1 bc.length k1) ∧ (W).cell? ⟨(w.heap.size + 2), 0, none⟩ = some (.int .i64 d.dc) ∧ (W).cell? ⟨(w.heap.size + 2), 1, none⟩ = some (.int .i64 d.n))
          (first | go_keep | exact HK2.out _ hbr7.out | exact HK2.out _ (hbr7.out.trans (by go_grown)) | exact HK2.out _ hbr6.out | exact HK2.out _ (hbr6.out.trans (by go_grown)) | exact HK2.out _ (((hbr7.out.setCell (by first | (simp; done) | (simp; omega)) _).setCell (by first | (simp; done) | (simp; omega)) _).setCell (by first | (simp; done) | (simp; omega)) _) | exact HK2.out _ (hbr5.out.trans (by go_grown)) | fail)
          (first
            | (go_at_call 33; go_loud ((refine (has09_any T C p d _ _ _ _ _ (HRr.out _ (by go_grown)) (HLr.out _ (by go_grown)) (Hrl2_2.out _ (hbr6.out.trans (by go_grown))) (by omega)).mono ?_); rw [HW.out]; rintro e w7 ⟨rfl, hb⟩; have hbr7 : Hid (Below (w.heap.size + 3) (((w.alloc (.cells #[.slice A0 a.es.length n0, .slice B0 a.ks.length m0, .slice D0 ac.length k0] 29)).alloc (.cells #[.slice A1 b.es.length n1, .slice B1 b.ks.length m1, .slice D1 bc.length k1] 29)).alloc (.cells #[.int .i64 d.dc, .int .i64 d.n] 42)) w7) := hid (Below.trans (hbr6.out.trans (by go_grown)) (hb.mono (by first | omega | (simp; done) | (simp; omega)))); have hsr7 := HS_2.out _ hbr7.out; have hch6_7 : Hid (Below w6.heap.size w6 w7) := hid (Below.trans (by go_grown) (hb.mono (by first | omega | (simp; done) | (simp; omega)))); clear hb))
            | (go_at_call 35; go_loud ((refine (l09join_any ac bc a b _ _ _ _ _ _ _ (Hrt0_2.out _ (hbr5.out.trans (by go_grown))) (Hrt1_2.out _ (hbr5.out.trans (by go_grown))) (Hrc0_2.out _ (hbr5.out.trans (by go_grown))) (Hrc1_2.out _ (hbr5.out.trans (by go_grown))) (by omega) (by omega) (by omega) (by omega)).mono ?_); rw [HJT.out, HJC.out]; rintro e w6 ⟨xe6, xk6, xc6, rfl, hrd6, hsl6, hb⟩; have hbr6 : Hid (Below (w.heap.size + 3) (((w.alloc (.cells #[.slice A0 a.es.length n0, .slice B0 a.ks.length m0, .slice D0 ac.length k0] 29)).alloc (.cells #[.slice A1 b.es.length n1, .slice B1 b.ks.length m1, .slice D1 bc.length k1] 29)).alloc (.cells #[.int .i64 d.dc, .int .i64 d.n] 42)) w6) := hid (Below.trans (hbr5.out.trans (by go_grown)) (hb.mono (by first | omega | (simp; done) | (simp; omega)))); have hsr6 := HS_2.out _ hbr6.out; obtain ⟨Ar6, nr6, Br6, mr6, hv1, hv2⟩ := rda_shape hrd6; subst hv1; subst hv2; obtain ⟨Dr6, kr6, hv3⟩ := hsl6.shape; subst hv3; have HR6 := hid hrd6; have HL6 := hid hsl6; clear hrd6 hsl6; have HRr : Hid (∀ W, Below w6.heap.size w6 W → T.rd W W.heap.size (.slice Ar6 T.es.length nr6) (.slice Br6 T.ks.length mr6)) := fun W hW => rda_rd HR6.out (fun b hb => hb.2) hW; have HLr : Hid (∀ W, Below w6.heap.size w6 W → SlP W W.heap.size 3 SpE (.slice Dr6 C.length kr6) C) := fun W hW => HL6.out.slp (fun b hb => hb.2) hW; clear hb)))
        all_goals (
          obtain ⟨hB, hs, rt0, rc0, rt1, rc1, rl2, c00, c01, c02, c10, c11, c12, c30, c31⟩ := HX0.out _ hbr7.out
          go_wp2_with fail
          go_ret
          exact ⟨rfl, hB⟩)
      · cases KA
        · skip
          go_upto_region 3 with (fail)
          have HK1 : Hid (∀ W, Below (w.heap.size + 3) (((w.alloc (.cells #[.slice A0 a.es.length n0, .slice B0 a.ks.length m0, .slice D0 ac.length k0] 29)).alloc (.cells #[.slice A1 b.es.length n1, .slice B1 b.ks.length m1, .slice D1 bc.length k1] 29)).alloc (.cells #[.int .i64 d.dc, .int .i64 d.n] 42)) W → ((W).cell? ⟨w.heap.size, 0, none⟩ = some (.slice A0 a.es.length n0) ∧ (W).cell? ⟨w.heap.size, 1, none⟩ = some (.slice B0 a.ks.length m0) ∧ (W).cell? ⟨w.heap.size, 2, none⟩ = some (.slice D0 ac.length k0) ∧ (W).cell? ⟨(w.heap.size + 1), 0, none⟩ = some (.slice A1 b.es.length n1) ∧ (W).cell? ⟨(w.heap.size + 1), 1, none⟩ = some (.slice B1 b.ks.length m1) ∧ (W).cell? ⟨(w.heap.size + 1), 2, none⟩ = some (.slice D1 bc.length k1) ∧ (W).cell? ⟨(w.heap.size + 2), 0, none⟩ = some (.int .i64 d.dc) ∧ (W).cell? ⟨(w.heap.size + 2), 1, none⟩ = some (.int .i64 d.n))) := fun W hW => by
            obtain ⟨_, _, _, _, _, _, _, z_c00, z_c01, z_c02, z_c10, z_c11, z_c12, z_c30, z_c31⟩ := HX0.out W hW
            exact ⟨z_c00, z_c01, z_c02, z_c10, z_c11, z_c12, z_c30, z_c31⟩
          have Hrt0_1 : Hid (∀ W, Below (w.heap.size + 3) (((w.alloc (.cells #[.slice A0 a.es.length n0, .slice B0 a.ks.length m0, .slice D0 ac.length k0] 29)).alloc (.cells #[.slice A1 b.es.length n1, .slice B1 b.ks.length m1, .slice D1 bc.length k1] 29)).alloc (.cells #[.int .i64 d.dc, .int .i64 d.n] 42)) W → a.rd W (W).heap.size (.slice A0 a.es.length n0) (.slice B0 a.ks.length m0)) := fun W hW => by
            obtain ⟨_, _, z, _, _, _, _, _, _, _, _, _, _, _, _⟩ := HX0.out W hW
            exact z
          have Hrc0_1 : Hid (∀ W, Below (w.heap.size + 3) (((w.alloc (.cells #[.slice A0 a.es.length n0, .slice B0 a.ks.length m0, .slice D0 ac.length k0] 29)).alloc (.cells #[.slice A1 b.es.length n1, .slice B1 b.ks.length m1, .slice D1 bc.length k1] 29)).alloc (.cells #[.int .i64 d.dc, .int .i64 d.n] 42)) W → SlP W (W).heap.size 3 SpE (.slice D0 ac.length k0) ac) := fun W hW => by
            obtain ⟨_, _, _, z, _, _, _, _, _, _, _, _, _, _, _⟩ := HX0.out W hW
            exact z
          have Hrt1_1 : Hid (∀ W, Below (w.heap.size + 3) (((w.alloc (.cells #[.slice A0 a.es.length n0, .slice B0 a.ks.length m0, .slice D0 ac.length k0] 29)).alloc (.cells #[.slice A1 b.es.length n1, .slice B1 b.ks.length m1, .slice D1 bc.length k1] 29)).alloc (.cells #[.int .i64 d.dc, .int .i64 d.n] 42)) W → b.rd W (W).heap.size (.slice A1 b.es.length n1) (.slice B1 b.ks.length m1)) := fun W hW => by
            obtain ⟨_, _, _, _, z, _, _, _, _, _, _, _, _, _, _⟩ := HX0.out W hW
            exact z
          have Hrc1_1 : Hid (∀ W, Below (w.heap.size + 3) (((w.alloc (.cells #[.slice A0 a.es.length n0, .slice B0 a.ks.length m0, .slice D0 ac.length k0] 29)).alloc (.cells #[.slice A1 b.es.length n1, .slice B1 b.ks.length m1, .slice D1 bc.length k1] 29)).alloc (.cells #[.int .i64 d.dc, .int .i64 d.n] 42)) W → SlP W (W).heap.size 3 SpE (.slice D1 bc.length k1) bc) := fun W hW => by
            obtain ⟨_, _, _, _, _, z, _, _, _, _, _, _, _, _, _⟩ := HX0.out W hW
            exact z
          have Hrl2_1 : Hid (∀ W, Below (w.heap.size + 3) (((w.alloc (.cells #[.slice A0 a.es.length n0, .slice B0 a.ks.length m0, .slice D0 ac.length k0] 29)).alloc (.cells #[.slice A1 b.es.length n1, .slice B1 b.ks.length m1, .slice D1 bc.length k1] 29)).alloc (.cells #[.int .i64 d.dc, .int .i64 d.n] 42)) W → SlP W (W).heap.size 1 StE (.slice A2 p.length n2) p) := fun W hW => by
            obtain ⟨_, _, _, _, _, _, z, _, _, _, _, _, _, _, _⟩ := HX0.out W hW
            exact z
          have HS_1 : Hid (∀ W, Below (w.heap.size + 3) (((w.alloc (.cells #[.slice A0 a.es.length n0, .slice B0 a.ks.length m0, .slice D0 ac.length k0] 29)).alloc (.cells #[.slice A1 b.es.length n1, .slice B1 b.ks.length m1, .slice D1 bc.length k1] 29)).alloc (.cells #[.int .i64 d.dc, .int .i64 d.n] 42)) W → (w.heap.size + 3) ≤ W.heap.size) := fun W hW => by
            have := hW.size
            first | omega | (simp at this; omega)
          have hsb1 := HS_1.out _ hbk3.out
          clear hB rt0 rc0 rt1 rc1 rl2
          go_region_held3 (fun W => (W).cell? ⟨w.heap.size, 0, none⟩ = some (.slice A0 a.es.length n0) ∧ (W).cell? ⟨w.heap.size, 1, none⟩ = some (.slice B0 a.ks.length m0) ∧ (W).cell? ⟨w.heap.size, 2, none⟩ = some (.slice D0 ac.length k0) ∧ (W).cell? ⟨(w.heap.size + 1), 0, none⟩ = some (.slice A1 b.es.length n1) ∧ (W).cell? ⟨(w.heap.size + 1), 1, none⟩ = some (.slice B1 b.ks.length m1) ∧ (W).cell? ⟨(w.heap.size + 1), 2, none⟩ = some (.slice D1 bc.length k1) ∧ (W).cell? ⟨(w.heap.size + 2), 0, none⟩ = some (.int .i64 d.dc) ∧ (W).cell? ⟨(w.heap.size + 2), 1, none⟩ = some (.int .i64 d.n))
            (first | go_keep | exact HK1.out _ hbr5.out | exact HK1.out _ (hbr5.out.trans (by go_grown)) | exact HK1.out _ hbr4.out | exact HK1.out _ (hbr4.out.trans (by go_grown)) | exact HK1.out _ (((hbr5.out.setCell (by first | (simp; done) | (simp; omega)) _).setCell (by first | (simp; done) | (simp; omega)) _).setCell (by first | (simp; done) | (simp; omega)) _) | exact HK1.out _ (hbk3.out.trans (by go_grown)) | fail)
            (first
              | (go_at_call 33; go_loud ((refine (has09_any b bc p d _ _ _ _ _ (Hrt1_1.out _ (hbr4.out.trans (by go_grown))) (Hrc1_1.out _ (hbr4.out.trans (by go_grown))) (Hrl2_1.out _ (hbr4.out.trans (by go_grown))) (by omega)).mono ?_); rw [HQ.out]; rintro e w5 ⟨rfl, hb⟩; have hbr5 : Hid (Below (w.heap.size + 3) (((w.alloc (.cells #[.slice A0 a.es.length n0, .slice B0 a.ks.length m0, .slice D0 ac.length k0] 29)).alloc (.cells #[.slice A1 b.es.length n1, .slice B1 b.ks.length m1, .slice D1 bc.length k1] 29)).alloc (.cells #[.int .i64 d.dc, .int .i64 d.n] 42)) w5) := hid (Below.trans (hbr4.out.trans (by go_grown)) (hb.mono (by first | omega | (simp; done) | (simp; omega)))); have hsr5 := HS_1.out _ hbr5.out; have hch4_5 : Hid (Below w4.heap.size w4 w5) := hid (Below.trans (by go_grown) (hb.mono (by first | omega | (simp; done) | (simp; omega)))); clear hb))
              | (go_at_call 33; go_loud ((refine (has09_any a ac p d _ _ _ _ _ (Hrt0_1.out _ (hbk3.out.trans (by go_grown))) (Hrc0_1.out _ (hbk3.out.trans (by go_grown))) (Hrl2_1.out _ (hbk3.out.trans (by go_grown))) (by omega)).mono ?_); rw [HP.out]; rintro e w4 ⟨rfl, hb⟩; have hbr4 : Hid (Below (w.heap.size + 3) (((w.alloc (.cells #[.slice A0 a.es.length n0, .slice B0 a.ks.length m0, .slice D0 ac.length k0] 29)).alloc (.cells #[.slice A1 b.es.length n1, .slice B1 b.ks.length m1, .slice D1 bc.length k1] 29)).alloc (.cells #[.int .i64 d.dc, .int .i64 d.n] 42)) w4) := hid (Below.trans (hbk3.out.trans (by go_grown)) (hb.mono (by first | omega | (simp; done) | (simp; omega)))); have hsr4 := HS_1.out _ hbr4.out; clear hb)))
          clear hs c00 c01 c02 c10 c11 c12 c30 c31
          obtain ⟨hB, hs, rt0, rc0, rt1, rc1, rl2, c00, c01, c02, c10, c11, c12, c30, c31⟩ := HX0.out _ hbr5.out
          go_wp2_with fail
          refine (r07has_any ac d _ _ rc0 (by omega)).mono ?_
          rw [HKA.out]
          rintro e w6 ⟨rfl, hb⟩
          have hbk6 : Hid (Below (w.heap.size + 3) (((w.alloc (.cells #[.slice A0 a.es.length n0, .slice B0 a.ks.length m0, .slice D0 ac.length k0] 29)).alloc (.cells #[.slice A1 b.es.length n1, .slice B1 b.ks.length m1, .slice D1 bc.length k1] 29)).alloc (.cells #[.int .i64 d.dc, .int .i64 d.n] 42)) w6) := hid (hbr5.out.trans (hb.mono (by first | omega | (simp; done) | (simp; omega))))
          clear hb
          clear hB hs rt0 rc0 rt1 rc1 rl2 c00 c01 c02 c10 c11 c12 c30 c31
          obtain ⟨hB, hs, rt0, rc0, rt1, rc1, rl2, c00, c01, c02, c10, c11, c12, c30, c31⟩ := HX0.out _ hbk6.out
          go_upto_region 5 with (fail)
          have HK2 : Hid (∀ W, Below (w.heap.size + 3) (((w.alloc (.cells #[.slice A0 a.es.length n0, .slice B0 a.ks.length m0, .slice D0 ac.length k0] 29)).alloc (.cells #[.slice A1 b.es.length n1, .slice B1 b.ks.length m1, .slice D1 bc.length k1] 29)).alloc (.cells #[.int .i64 d.dc, .int .i64 d.n] 42)) W → ((W).cell? ⟨w.heap.size, 0, none⟩ = some (.slice A0 a.es.length n0) ∧ (W).cell? ⟨w.heap.size, 1, none⟩ = some (.slice B0 a.ks.length m0) ∧ (W).cell? ⟨w.heap.size, 2, none⟩ = some (.slice D0 ac.length k0) ∧ (W).cell? ⟨(w.heap.size + 1), 0, none⟩ = some (.slice A1 b.es.length n1) ∧ (W).cell? ⟨(w.heap.size + 1), 1, none⟩ = some (.slice B1 b.ks.length m1) ∧ (W).cell? ⟨(w.heap.size + 1), 2, none⟩ = some (.slice D1 bc.length k1) ∧ (W).cell? ⟨(w.heap.size + 2), 0, none⟩ = some (.int .i64 d.dc) ∧ (W).cell? ⟨(w.heap.size + 2), 1, none⟩ = some (.int .i64 d.n))) := fun W hW => by
            obtain ⟨_, _, _, _, _, _, _, z_c00, z_c01, z_c02, z_c10, z_c11, z_c12, z_c30, z_c31⟩ := HX0.out W hW
            exact ⟨z_c00, z_c01, z_c02, z_c10, z_c11, z_c12, z_c30, z_c31⟩
          have Hrt0_2 : Hid (∀ W, Below (w.heap.size + 3) (((w.alloc (.cells #[.slice A0 a.es.length n0, .slice B0 a.ks.length m0, .slice D0 ac.length k0] 29)).alloc (.cells #[.slice A1 b.es.length n1, .slice B1 b.ks.length m1, .slice D1 bc.length k1] 29)).alloc (.cells #[.int .i64 d.dc, .int .i64 d.n] 42)) W → a.rd W (W).heap.size (.slice A0 a.es.length n0) (.slice B0 a.ks.length m0)) := fun W hW => by
            obtain ⟨_, _, z, _, _, _, _, _, _, _, _, _, _, _, _⟩ := HX0.out W hW
            exact z
          have Hrc0_2 : Hid (∀ W, Below (w.heap.size + 3) (((w.alloc (.cells #[.slice A0 a.es.length n0, .slice B0 a.ks.length m0, .slice D0 ac.length k0] 29)).alloc (.cells #[.slice A1 b.es.length n1, .slice B1 b.ks.length m1, .slice D1 bc.length k1] 29)).alloc (.cells #[.int .i64 d.dc, .int .i64 d.n] 42)) W → SlP W (W).heap.size 3 SpE (.slice D0 ac.length k0) ac) := fun W hW => by
            obtain ⟨_, _, _, z, _, _, _, _, _, _, _, _, _, _, _⟩ := HX0.out W hW
            exact z
          have Hrt1_2 : Hid (∀ W, Below (w.heap.size + 3) (((w.alloc (.cells #[.slice A0 a.es.length n0, .slice B0 a.ks.length m0, .slice D0 ac.length k0] 29)).alloc (.cells #[.slice A1 b.es.length n1, .slice B1 b.ks.length m1, .slice D1 bc.length k1] 29)).alloc (.cells #[.int .i64 d.dc, .int .i64 d.n] 42)) W → b.rd W (W).heap.size (.slice A1 b.es.length n1) (.slice B1 b.ks.length m1)) := fun W hW => by
            obtain ⟨_, _, _, _, z, _, _, _, _, _, _, _, _, _, _⟩ := HX0.out W hW
            exact z
          have Hrc1_2 : Hid (∀ W, Below (w.heap.size + 3) (((w.alloc (.cells #[.slice A0 a.es.length n0, .slice B0 a.ks.length m0, .slice D0 ac.length k0] 29)).alloc (.cells #[.slice A1 b.es.length n1, .slice B1 b.ks.length m1, .slice D1 bc.length k1] 29)).alloc (.cells #[.int .i64 d.dc, .int .i64 d.n] 42)) W → SlP W (W).heap.size 3 SpE (.slice D1 bc.length k1) bc) := fun W hW => by
            obtain ⟨_, _, _, _, _, z, _, _, _, _, _, _, _, _, _⟩ := HX0.out W hW
            exact z
          have Hrl2_2 : Hid (∀ W, Below (w.heap.size + 3) (((w.alloc (.cells #[.slice A0 a.es.length n0, .slice B0 a.ks.length m0, .slice D0 ac.length k0] 29)).alloc (.cells #[.slice A1 b.es.length n1, .slice B1 b.ks.length m1, .slice D1 bc.length k1] 29)).alloc (.cells #[.int .i64 d.dc, .int .i64 d.n] 42)) W → SlP W (W).heap.size 1 StE (.slice A2 p.length n2) p) := fun W hW => by
            obtain ⟨_, _, _, _, _, _, z, _, _, _, _, _, _, _, _⟩ := HX0.out W hW
            exact z
          have HS_2 : Hid (∀ W, Below (w.heap.size + 3) (((w.alloc (.cells #[.slice A0 a.es.length n0, .slice B0 a.ks.length m0, .slice D0 ac.length k0] 29)).alloc (.cells #[.slice A1 b.es.length n1, .slice B1 b.ks.length m1, .slice D1 bc.length k1] 29)).alloc (.cells #[.int .i64 d.dc, .int .i64 d.n] 42)) W → (w.heap.size + 3) ≤ W.heap.size) := fun W hW => by
            have := hW.size
            first | omega | (simp at this; omega)
          have hsb2 := HS_2.out _ hbk6.out
          clear hB rt0 rc0 rt1 rc1 rl2
          go_region_held3 (fun W => (W).cell? ⟨w.heap.size, 0, none⟩ = some (.slice A0 a.es.length n0) ∧ (W).cell? ⟨w.heap.size, 1, none⟩ = some (.slice B0 a.ks.length m0) ∧ (W).cell? ⟨w.heap.size, 2, none⟩ = some (.slice D0 ac.length k0) ∧ (W).cell? ⟨(w.heap.size + 1), 0, none⟩ = some (.slice A1 b.es.length n1) ∧ (W).cell? ⟨(w.heap.size + 1), 1, none⟩ = some (.slice B1 b.ks.length m1) ∧ (W).cell? ⟨(w.heap.size + 1), 2, none⟩ = some (.slice D1 bc.length k1) ∧ (W).cell? ⟨(w.heap.size + 2), 0, none⟩ = some (.int .i64 d.dc) ∧ (W).cell? ⟨(w.heap.size + 2), 1, none⟩ = some (.int .i64 d.n))
            (first | go_keep | exact HK2.out _ hbr8.out | exact HK2.out _ (hbr8.out.trans (by go_grown)) | exact HK2.out _ hbr7.out | exact HK2.out _ (hbr7.out.trans (by go_grown)) | exact HK2.out _ (((hbr8.out.setCell (by first | (simp; done) | (simp; omega)) _).setCell (by first | (simp; done) | (simp; omega)) _).setCell (by first | (simp; done) | (simp; omega)) _) | exact HK2.out _ (hbk6.out.trans (by go_grown)) | fail)
            (first
              | (go_at_call 33; go_loud ((refine (has09_any T C p d _ _ _ _ _ (HRr.out _ (by go_grown)) (HLr.out _ (by go_grown)) (Hrl2_2.out _ (hbr7.out.trans (by go_grown))) (by omega)).mono ?_); rw [HW.out]; rintro e w8 ⟨rfl, hb⟩; have hbr8 : Hid (Below (w.heap.size + 3) (((w.alloc (.cells #[.slice A0 a.es.length n0, .slice B0 a.ks.length m0, .slice D0 ac.length k0] 29)).alloc (.cells #[.slice A1 b.es.length n1, .slice B1 b.ks.length m1, .slice D1 bc.length k1] 29)).alloc (.cells #[.int .i64 d.dc, .int .i64 d.n] 42)) w8) := hid (Below.trans (hbr7.out.trans (by go_grown)) (hb.mono (by first | omega | (simp; done) | (simp; omega)))); have hsr8 := HS_2.out _ hbr8.out; have hch7_8 : Hid (Below w7.heap.size w7 w8) := hid (Below.trans (by go_grown) (hb.mono (by first | omega | (simp; done) | (simp; omega)))); clear hb))
              | (go_at_call 35; go_loud ((refine (l09join_any ac bc a b _ _ _ _ _ _ _ (Hrt0_2.out _ (hbk6.out.trans (by go_grown))) (Hrt1_2.out _ (hbk6.out.trans (by go_grown))) (Hrc0_2.out _ (hbk6.out.trans (by go_grown))) (Hrc1_2.out _ (hbk6.out.trans (by go_grown))) (by omega) (by omega) (by omega) (by omega)).mono ?_); rw [HJT.out, HJC.out]; rintro e w7 ⟨xe7, xk7, xc7, rfl, hrd7, hsl7, hb⟩; have hbr7 : Hid (Below (w.heap.size + 3) (((w.alloc (.cells #[.slice A0 a.es.length n0, .slice B0 a.ks.length m0, .slice D0 ac.length k0] 29)).alloc (.cells #[.slice A1 b.es.length n1, .slice B1 b.ks.length m1, .slice D1 bc.length k1] 29)).alloc (.cells #[.int .i64 d.dc, .int .i64 d.n] 42)) w7) := hid (Below.trans (hbk6.out.trans (by go_grown)) (hb.mono (by first | omega | (simp; done) | (simp; omega)))); have hsr7 := HS_2.out _ hbr7.out; obtain ⟨Ar7, nr7, Br7, mr7, hv1, hv2⟩ := rda_shape hrd7; subst hv1; subst hv2; obtain ⟨Dr7, kr7, hv3⟩ := hsl7.shape; subst hv3; have HR7 := hid hrd7; have HL7 := hid hsl7; clear hrd7 hsl7; have HRr : Hid (∀ W, Below w7.heap.size w7 W → T.rd W W.heap.size (.slice Ar7 T.es.length nr7) (.slice Br7 T.ks.length mr7)) := fun W hW => rda_rd HR7.out (fun b hb => hb.2) hW; have HLr : Hid (∀ W, Below w7.heap.size w7 W → SlP W W.heap.size 3 SpE (.slice Dr7 C.length kr7) C) := fun W hW => HL7.out.slp (fun b hb => hb.2) hW; clear hb)))
          all_goals (
            obtain ⟨hB, hs, rt0, rc0, rt1, rc1, rl2, c00, c01, c02, c10, c11, c12, c30, c31⟩ := HX0.out _ hbr8.out
            go_wp2_with fail
            go_ret
            exact ⟨rfl, hB⟩)
        · skip
          go_upto_region 3 with (fail)
          have HK1 : Hid (∀ W, Below (w.heap.size + 3) (((w.alloc (.cells #[.slice A0 a.es.length n0, .slice B0 a.ks.length m0, .slice D0 ac.length k0] 29)).alloc (.cells #[.slice A1 b.es.length n1, .slice B1 b.ks.length m1, .slice D1 bc.length k1] 29)).alloc (.cells #[.int .i64 d.dc, .int .i64 d.n] 42)) W → ((W).cell? ⟨w.heap.size, 0, none⟩ = some (.slice A0 a.es.length n0) ∧ (W).cell? ⟨w.heap.size, 1, none⟩ = some (.slice B0 a.ks.length m0) ∧ (W).cell? ⟨w.heap.size, 2, none⟩ = some (.slice D0 ac.length k0) ∧ (W).cell? ⟨(w.heap.size + 1), 0, none⟩ = some (.slice A1 b.es.length n1) ∧ (W).cell? ⟨(w.heap.size + 1), 1, none⟩ = some (.slice B1 b.ks.length m1) ∧ (W).cell? ⟨(w.heap.size + 1), 2, none⟩ = some (.slice D1 bc.length k1) ∧ (W).cell? ⟨(w.heap.size + 2), 0, none⟩ = some (.int .i64 d.dc) ∧ (W).cell? ⟨(w.heap.size + 2), 1, none⟩ = some (.int .i64 d.n))) := fun W hW => by
            obtain ⟨_, _, _, _, _, _, _, z_c00, z_c01, z_c02, z_c10, z_c11, z_c12, z_c30, z_c31⟩ := HX0.out W hW
            exact ⟨z_c00, z_c01, z_c02, z_c10, z_c11, z_c12, z_c30, z_c31⟩
          have Hrt0_1 : Hid (∀ W, Below (w.heap.size + 3) (((w.alloc (.cells #[.slice A0 a.es.length n0, .slice B0 a.ks.length m0, .slice D0 ac.length k0] 29)).alloc (.cells #[.slice A1 b.es.length n1, .slice B1 b.ks.length m1, .slice D1 bc.length k1] 29)).alloc (.cells #[.int .i64 d.dc, .int .i64 d.n] 42)) W → a.rd W (W).heap.size (.slice A0 a.es.length n0) (.slice B0 a.ks.length m0)) := fun W hW => by
            obtain ⟨_, _, z, _, _, _, _, _, _, _, _, _, _, _, _⟩ := HX0.out W hW
            exact z
          have Hrc0_1 : Hid (∀ W, Below (w.heap.size + 3) (((w.alloc (.cells #[.slice A0 a.es.length n0, .slice B0 a.ks.length m0, .slice D0 ac.length k0] 29)).alloc (.cells #[.slice A1 b.es.length n1, .slice B1 b.ks.length m1, .slice D1 bc.length k1] 29)).alloc (.cells #[.int .i64 d.dc, .int .i64 d.n] 42)) W → SlP W (W).heap.size 3 SpE (.slice D0 ac.length k0) ac) := fun W hW => by
            obtain ⟨_, _, _, z, _, _, _, _, _, _, _, _, _, _, _⟩ := HX0.out W hW
            exact z
          have Hrt1_1 : Hid (∀ W, Below (w.heap.size + 3) (((w.alloc (.cells #[.slice A0 a.es.length n0, .slice B0 a.ks.length m0, .slice D0 ac.length k0] 29)).alloc (.cells #[.slice A1 b.es.length n1, .slice B1 b.ks.length m1, .slice D1 bc.length k1] 29)).alloc (.cells #[.int .i64 d.dc, .int .i64 d.n] 42)) W → b.rd W (W).heap.size (.slice A1 b.es.length n1) (.slice B1 b.ks.length m1)) := fun W hW => by
            obtain ⟨_, _, _, _, z, _, _, _, _, _, _, _, _, _, _⟩ := HX0.out W hW
            exact z
          have Hrc1_1 : Hid (∀ W, Below (w.heap.size + 3) (((w.alloc (.cells #[.slice A0 a.es.length n0, .slice B0 a.ks.length m0, .slice D0 ac.length k0] 29)).alloc (.cells #[.slice A1 b.es.length n1, .slice B1 b.ks.length m1, .slice D1 bc.length k1] 29)).alloc (.cells #[.int .i64 d.dc, .int .i64 d.n] 42)) W → SlP W (W).heap.size 3 SpE (.slice D1 bc.length k1) bc) := fun W hW => by
            obtain ⟨_, _, _, _, _, z, _, _, _, _, _, _, _, _, _⟩ := HX0.out W hW
            exact z
          have Hrl2_1 : Hid (∀ W, Below (w.heap.size + 3) (((w.alloc (.cells #[.slice A0 a.es.length n0, .slice B0 a.ks.length m0, .slice D0 ac.length k0] 29)).alloc (.cells #[.slice A1 b.es.length n1, .slice B1 b.ks.length m1, .slice D1 bc.length k1] 29)).alloc (.cells #[.int .i64 d.dc, .int .i64 d.n] 42)) W → SlP W (W).heap.size 1 StE (.slice A2 p.length n2) p) := fun W hW => by
            obtain ⟨_, _, _, _, _, _, z, _, _, _, _, _, _, _, _⟩ := HX0.out W hW
            exact z
          have HS_1 : Hid (∀ W, Below (w.heap.size + 3) (((w.alloc (.cells #[.slice A0 a.es.length n0, .slice B0 a.ks.length m0, .slice D0 ac.length k0] 29)).alloc (.cells #[.slice A1 b.es.length n1, .slice B1 b.ks.length m1, .slice D1 bc.length k1] 29)).alloc (.cells #[.int .i64 d.dc, .int .i64 d.n] 42)) W → (w.heap.size + 3) ≤ W.heap.size) := fun W hW => by
            have := hW.size
            first | omega | (simp at this; omega)
          have hsb1 := HS_1.out _ hbk3.out
          clear hB rt0 rc0 rt1 rc1 rl2
          go_region_held3 (fun W => (W).cell? ⟨w.heap.size, 0, none⟩ = some (.slice A0 a.es.length n0) ∧ (W).cell? ⟨w.heap.size, 1, none⟩ = some (.slice B0 a.ks.length m0) ∧ (W).cell? ⟨w.heap.size, 2, none⟩ = some (.slice D0 ac.length k0) ∧ (W).cell? ⟨(w.heap.size + 1), 0, none⟩ = some (.slice A1 b.es.length n1) ∧ (W).cell? ⟨(w.heap.size + 1), 1, none⟩ = some (.slice B1 b.ks.length m1) ∧ (W).cell? ⟨(w.heap.size + 1), 2, none⟩ = some (.slice D1 bc.length k1) ∧ (W).cell? ⟨(w.heap.size + 2), 0, none⟩ = some (.int .i64 d.dc) ∧ (W).cell? ⟨(w.heap.size + 2), 1, none⟩ = some (.int .i64 d.n))
            (first | go_keep | exact HK1.out _ hbr5.out | exact HK1.out _ (hbr5.out.trans (by go_grown)) | exact HK1.out _ hbr4.out | exact HK1.out _ (hbr4.out.trans (by go_grown)) | exact HK1.out _ (((hbr5.out.setCell (by first | (simp; done) | (simp; omega)) _).setCell (by first | (simp; done) | (simp; omega)) _).setCell (by first | (simp; done) | (simp; omega)) _) | exact HK1.out _ (hbk3.out.trans (by go_grown)) | fail)
            (first
              | (go_at_call 33; go_loud ((refine (has09_any b bc p d _ _ _ _ _ (Hrt1_1.out _ (hbr4.out.trans (by go_grown))) (Hrc1_1.out _ (hbr4.out.trans (by go_grown))) (Hrl2_1.out _ (hbr4.out.trans (by go_grown))) (by omega)).mono ?_); rw [HQ.out]; rintro e w5 ⟨rfl, hb⟩; have hbr5 : Hid (Below (w.heap.size + 3) (((w.alloc (.cells #[.slice A0 a.es.length n0, .slice B0 a.ks.length m0, .slice D0 ac.length k0] 29)).alloc (.cells #[.slice A1 b.es.length n1, .slice B1 b.ks.length m1, .slice D1 bc.length k1] 29)).alloc (.cells #[.int .i64 d.dc, .int .i64 d.n] 42)) w5) := hid (Below.trans (hbr4.out.trans (by go_grown)) (hb.mono (by first | omega | (simp; done) | (simp; omega)))); have hsr5 := HS_1.out _ hbr5.out; have hch4_5 : Hid (Below w4.heap.size w4 w5) := hid (Below.trans (by go_grown) (hb.mono (by first | omega | (simp; done) | (simp; omega)))); clear hb))
              | (go_at_call 33; go_loud ((refine (has09_any a ac p d _ _ _ _ _ (Hrt0_1.out _ (hbk3.out.trans (by go_grown))) (Hrc0_1.out _ (hbk3.out.trans (by go_grown))) (Hrl2_1.out _ (hbk3.out.trans (by go_grown))) (by omega)).mono ?_); rw [HP.out]; rintro e w4 ⟨rfl, hb⟩; have hbr4 : Hid (Below (w.heap.size + 3) (((w.alloc (.cells #[.slice A0 a.es.length n0, .slice B0 a.ks.length m0, .slice D0 ac.length k0] 29)).alloc (.cells #[.slice A1 b.es.length n1, .slice B1 b.ks.length m1, .slice D1 bc.length k1] 29)).alloc (.cells #[.int .i64 d.dc, .int .i64 d.n] 42)) w4) := hid (Below.trans (hbk3.out.trans (by go_grown)) (hb.mono (by first | omega | (simp; done) | (simp; omega)))); have hsr4 := HS_1.out _ hbr4.out; clear hb)))
          clear hs c00 c01 c02 c10 c11 c12 c30 c31
          obtain ⟨hB, hs, rt0, rc0, rt1, rc1, rl2, c00, c01, c02, c10, c11, c12, c30, c31⟩ := HX0.out _ hbr5.out
          go_wp2_with fail
          refine (r07has_any ac d _ _ rc0 (by omega)).mono ?_
          rw [HKA.out]
          rintro e w6 ⟨rfl, hb⟩
          have hbk6 : Hid (Below (w.heap.size + 3) (((w.alloc (.cells #[.slice A0 a.es.length n0, .slice B0 a.ks.length m0, .slice D0 ac.length k0] 29)).alloc (.cells #[.slice A1 b.es.length n1, .slice B1 b.ks.length m1, .slice D1 bc.length k1] 29)).alloc (.cells #[.int .i64 d.dc, .int .i64 d.n] 42)) w6) := hid (hbr5.out.trans (hb.mono (by first | omega | (simp; done) | (simp; omega))))
          clear hb
          clear hB hs rt0 rc0 rt1 rc1 rl2 c00 c01 c02 c10 c11 c12 c30 c31
          obtain ⟨hB, hs, rt0, rc0, rt1, rc1, rl2, c00, c01, c02, c10, c11, c12, c30, c31⟩ := HX0.out _ hbk6.out
          go_upto_region 5 with (fail)
          have HK2 : Hid (∀ W, Below (w.heap.size + 3) (((w.alloc (.cells #[.slice A0 a.es.length n0, .slice B0 a.ks.length m0, .slice D0 ac.length k0] 29)).alloc (.cells #[.slice A1 b.es.length n1, .slice B1 b.ks.length m1, .slice D1 bc.length k1] 29)).alloc (.cells #[.int .i64 d.dc, .int .i64 d.n] 42)) W → ((W).cell? ⟨w.heap.size, 0, none⟩ = some (.slice A0 a.es.length n0) ∧ (W).cell? ⟨w.heap.size, 1, none⟩ = some (.slice B0 a.ks.length m0) ∧ (W).cell? ⟨w.heap.size, 2, none⟩ = some (.slice D0 ac.length k0) ∧ (W).cell? ⟨(w.heap.size + 1), 0, none⟩ = some (.slice A1 b.es.length n1) ∧ (W).cell? ⟨(w.heap.size + 1), 1, none⟩ = some (.slice B1 b.ks.length m1) ∧ (W).cell? ⟨(w.heap.size + 1), 2, none⟩ = some (.slice D1 bc.length k1) ∧ (W).cell? ⟨(w.heap.size + 2), 0, none⟩ = some (.int .i64 d.dc) ∧ (W).cell? ⟨(w.heap.size + 2), 1, none⟩ = some (.int .i64 d.n))) := fun W hW => by
            obtain ⟨_, _, _, _, _, _, _, z_c00, z_c01, z_c02, z_c10, z_c11, z_c12, z_c30, z_c31⟩ := HX0.out W hW
            exact ⟨z_c00, z_c01, z_c02, z_c10, z_c11, z_c12, z_c30, z_c31⟩
          have Hrt0_2 : Hid (∀ W, Below (w.heap.size + 3) (((w.alloc (.cells #[.slice A0 a.es.length n0, .slice B0 a.ks.length m0, .slice D0 ac.length k0] 29)).alloc (.cells #[.slice A1 b.es.length n1, .slice B1 b.ks.length m1, .slice D1 bc.length k1] 29)).alloc (.cells #[.int .i64 d.dc, .int .i64 d.n] 42)) W → a.rd W (W).heap.size (.slice A0 a.es.length n0) (.slice B0 a.ks.length m0)) := fun W hW => by
            obtain ⟨_, _, z, _, _, _, _, _, _, _, _, _, _, _, _⟩ := HX0.out W hW
            exact z
          have Hrc0_2 : Hid (∀ W, Below (w.heap.size + 3) (((w.alloc (.cells #[.slice A0 a.es.length n0, .slice B0 a.ks.length m0, .slice D0 ac.length k0] 29)).alloc (.cells #[.slice A1 b.es.length n1, .slice B1 b.ks.length m1, .slice D1 bc.length k1] 29)).alloc (.cells #[.int .i64 d.dc, .int .i64 d.n] 42)) W → SlP W (W).heap.size 3 SpE (.slice D0 ac.length k0) ac) := fun W hW => by
            obtain ⟨_, _, _, z, _, _, _, _, _, _, _, _, _, _, _⟩ := HX0.out W hW
            exact z
          have Hrt1_2 : Hid (∀ W, Below (w.heap.size + 3) (((w.alloc (.cells #[.slice A0 a.es.length n0, .slice B0 a.ks.length m0, .slice D0 ac.length k0] 29)).alloc (.cells #[.slice A1 b.es.length n1, .slice B1 b.ks.length m1, .slice D1 bc.length k1] 29)).alloc (.cells #[.int .i64 d.dc, .int .i64 d.n] 42)) W → b.rd W (W).heap.size (.slice A1 b.es.length n1) (.slice B1 b.ks.length m1)) := fun W hW => by
            obtain ⟨_, _, _, _, z, _, _, _, _, _, _, _, _, _, _⟩ := HX0.out W hW
            exact z
          have Hrc1_2 : Hid (∀ W, Below (w.heap.size + 3) (((w.alloc (.cells #[.slice A0 a.es.length n0, .slice B0 a.ks.length m0, .slice D0 ac.length k0] 29)).alloc (.cells #[.slice A1 b.es.length n1, .slice B1 b.ks.length m1, .slice D1 bc.length k1] 29)).alloc (.cells #[.int .i64 d.dc, .int .i64 d.n] 42)) W → SlP W (W).heap.size 3 SpE (.slice D1 bc.length k1) bc) := fun W hW => by
            obtain ⟨_, _, _, _, _, z, _, _, _, _, _, _, _, _, _⟩ := HX0.out W hW
            exact z
          have Hrl2_2 : Hid (∀ W, Below (w.heap.size + 3) (((w.alloc (.cells #[.slice A0 a.es.length n0, .slice B0 a.ks.length m0, .slice D0 ac.length k0] 29)).alloc (.cells #[.slice A1 b.es.length n1, .slice B1 b.ks.length m1, .slice D1 bc.length k1] 29)).alloc (.cells #[.int .i64 d.dc, .int .i64 d.n] 42)) W → SlP W (W).heap.size 1 StE (.slice A2 p.length n2) p) := fun W hW => by
            obtain ⟨_, _, _, _, _, _, z, _, _, _, _, _, _, _, _⟩ := HX0.out W hW
            exact z
          have HS_2 : Hid (∀ W, Below (w.heap.size + 3) (((w.alloc (.cells #[.slice A0 a.es.length n0, .slice B0 a.ks.length m0, .slice D0 ac.length k0] 29)).alloc (.cells #[.slice A1 b.es.length n1, .slice B1 b.ks.length m1, .slice D1 bc.length k1] 29)).alloc (.cells #[.int .i64 d.dc, .int .i64 d.n] 42)) W → (w.heap.size + 3) ≤ W.heap.size) := fun W hW => by
            have := hW.size
            first | omega | (simp at this; omega)
          have hsb2 := HS_2.out _ hbk6.out
          clear hB rt0 rc0 rt1 rc1 rl2
          go_region_held3 (fun W => (W).cell? ⟨w.heap.size, 0, none⟩ = some (.slice A0 a.es.length n0) ∧ (W).cell? ⟨w.heap.size, 1, none⟩ = some (.slice B0 a.ks.length m0) ∧ (W).cell? ⟨w.heap.size, 2, none⟩ = some (.slice D0 ac.length k0) ∧ (W).cell? ⟨(w.heap.size + 1), 0, none⟩ = some (.slice A1 b.es.length n1) ∧ (W).cell? ⟨(w.heap.size + 1), 1, none⟩ = some (.slice B1 b.ks.length m1) ∧ (W).cell? ⟨(w.heap.size + 1), 2, none⟩ = some (.slice D1 bc.length k1) ∧ (W).cell? ⟨(w.heap.size + 2), 0, none⟩ = some (.int .i64 d.dc) ∧ (W).cell? ⟨(w.heap.size + 2), 1, none⟩ = some (.int .i64 d.n))
            (first | go_keep | exact HK2.out _ hbr8.out | exact HK2.out _ (hbr8.out.trans (by go_grown)) | exact HK2.out _ hbr7.out | exact HK2.out _ (hbr7.out.trans (by go_grown)) | exact HK2.out _ (((hbr8.out.setCell (by first | (simp; done) | (simp; omega)) _).setCell (by first | (simp; done) | (simp; omega)) _).setCell (by first | (simp; done) | (simp; omega)) _) | exact HK2.out _ (hbk6.out.trans (by go_grown)) | fail)
            (first
              | (go_at_call 33; go_loud ((refine (has09_any T C p d _ _ _ _ _ (HRr.out _ (by go_grown)) (HLr.out _ (by go_grown)) (Hrl2_2.out _ (hbr7.out.trans (by go_grown))) (by omega)).mono ?_); rw [HW.out]; rintro e w8 ⟨rfl, hb⟩; have hbr8 : Hid (Below (w.heap.size + 3) (((w.alloc (.cells #[.slice A0 a.es.length n0, .slice B0 a.ks.length m0, .slice D0 ac.length k0] 29)).alloc (.cells #[.slice A1 b.es.length n1, .slice B1 b.ks.length m1, .slice D1 bc.length k1] 29)).alloc (.cells #[.int .i64 d.dc, .int .i64 d.n] 42)) w8) := hid (Below.trans (hbr7.out.trans (by go_grown)) (hb.mono (by first | omega | (simp; done) | (simp; omega)))); have hsr8 := HS_2.out _ hbr8.out; have hch7_8 : Hid (Below w7.heap.size w7 w8) := hid (Below.trans (by go_grown) (hb.mono (by first | omega | (simp; done) | (simp; omega)))); clear hb))
              | (go_at_call 35; go_loud ((refine (l09join_any ac bc a b _ _ _ _ _ _ _ (Hrt0_2.out _ (hbk6.out.trans (by go_grown))) (Hrt1_2.out _ (hbk6.out.trans (by go_grown))) (Hrc0_2.out _ (hbk6.out.trans (by go_grown))) (Hrc1_2.out _ (hbk6.out.trans (by go_grown))) (by omega) (by omega) (by omega) (by omega)).mono ?_); rw [HJT.out, HJC.out]; rintro e w7 ⟨xe7, xk7, xc7, rfl, hrd7, hsl7, hb⟩; have hbr7 : Hid (Below (w.heap.size + 3) (((w.alloc (.cells #[.slice A0 a.es.length n0, .slice B0 a.ks.length m0, .slice D0 ac.length k0] 29)).alloc (.cells #[.slice A1 b.es.length n1, .slice B1 b.ks.length m1, .slice D1 bc.length k1] 29)).alloc (.cells #[.int .i64 d.dc, .int .i64 d.n] 42)) w7) := hid (Below.trans (hbk6.out.trans (by go_grown)) (hb.mono (by first | omega | (simp; done) | (simp; omega)))); have hsr7 := HS_2.out _ hbr7.out; obtain ⟨Ar7, nr7, Br7, mr7, hv1, hv2⟩ := rda_shape hrd7; subst hv1; subst hv2; obtain ⟨Dr7, kr7, hv3⟩ := hsl7.shape; subst hv3; have HR7 := hid hrd7; have HL7 := hid hsl7; clear hrd7 hsl7; have HRr : Hid (∀ W, Below w7.heap.size w7 W → T.rd W W.heap.size (.slice Ar7 T.es.length nr7) (.slice Br7 T.ks.length mr7)) := fun W hW => rda_rd HR7.out (fun b hb => hb.2) hW; have HLr : Hid (∀ W, Below w7.heap.size w7 W → SlP W W.heap.size 3 SpE (.slice Dr7 C.length kr7) C) := fun W hW => HL7.out.slp (fun b hb => hb.2) hW; clear hb)))
          all_goals (
            obtain ⟨hB, hs, rt0, rc0, rt1, rc1, rl2, c00, c01, c02, c10, c11, c12, c30, c31⟩ := HX0.out _ hbr8.out
            go_wp2_with fail
            go_ret
            exact ⟨rfl, hB⟩)
    · cases Q
      · cases KB
        · skip
          go_upto_region 3 with (fail)
          have HK1 : Hid (∀ W, Below (w.heap.size + 3) (((w.alloc (.cells #[.slice A0 a.es.length n0, .slice B0 a.ks.length m0, .slice D0 ac.length k0] 29)).alloc (.cells #[.slice A1 b.es.length n1, .slice B1 b.ks.length m1, .slice D1 bc.length k1] 29)).alloc (.cells #[.int .i64 d.dc, .int .i64 d.n] 42)) W → ((W).cell? ⟨w.heap.size, 0, none⟩ = some (.slice A0 a.es.length n0) ∧ (W).cell? ⟨w.heap.size, 1, none⟩ = some (.slice B0 a.ks.length m0) ∧ (W).cell? ⟨w.heap.size, 2, none⟩ = some (.slice D0 ac.length k0) ∧ (W).cell? ⟨(w.heap.size + 1), 0, none⟩ = some (.slice A1 b.es.length n1) ∧ (W).cell? ⟨(w.heap.size + 1), 1, none⟩ = some (.slice B1 b.ks.length m1) ∧ (W).cell? ⟨(w.heap.size + 1), 2, none⟩ = some (.slice D1 bc.length k1) ∧ (W).cell? ⟨(w.heap.size + 2), 0, none⟩ = some (.int .i64 d.dc) ∧ (W).cell? ⟨(w.heap.size + 2), 1, none⟩ = some (.int .i64 d.n))) := fun W hW => by
            obtain ⟨_, _, _, _, _, _, _, z_c00, z_c01, z_c02, z_c10, z_c11, z_c12, z_c30, z_c31⟩ := HX0.out W hW
            exact ⟨z_c00, z_c01, z_c02, z_c10, z_c11, z_c12, z_c30, z_c31⟩
          have Hrt0_1 : Hid (∀ W, Below (w.heap.size + 3) (((w.alloc (.cells #[.slice A0 a.es.length n0, .slice B0 a.ks.length m0, .slice D0 ac.length k0] 29)).alloc (.cells #[.slice A1 b.es.length n1, .slice B1 b.ks.length m1, .slice D1 bc.length k1] 29)).alloc (.cells #[.int .i64 d.dc, .int .i64 d.n] 42)) W → a.rd W (W).heap.size (.slice A0 a.es.length n0) (.slice B0 a.ks.length m0)) := fun W hW => by
            obtain ⟨_, _, z, _, _, _, _, _, _, _, _, _, _, _, _⟩ := HX0.out W hW
            exact z
          have Hrc0_1 : Hid (∀ W, Below (w.heap.size + 3) (((w.alloc (.cells #[.slice A0 a.es.length n0, .slice B0 a.ks.length m0, .slice D0 ac.length k0] 29)).alloc (.cells #[.slice A1 b.es.length n1, .slice B1 b.ks.length m1, .slice D1 bc.length k1] 29)).alloc (.cells #[.int .i64 d.dc, .int .i64 d.n] 42)) W → SlP W (W).heap.size 3 SpE (.slice D0 ac.length k0) ac) := fun W hW => by
            obtain ⟨_, _, _, z, _, _, _, _, _, _, _, _, _, _, _⟩ := HX0.out W hW
            exact z
          have Hrt1_1 : Hid (∀ W, Below (w.heap.size + 3) (((w.alloc (.cells #[.slice A0 a.es.length n0, .slice B0 a.ks.length m0, .slice D0 ac.length k0] 29)).alloc (.cells #[.slice A1 b.es.length n1, .slice B1 b.ks.length m1, .slice D1 bc.length k1] 29)).alloc (.cells #[.int .i64 d.dc, .int .i64 d.n] 42)) W → b.rd W (W).heap.size (.slice A1 b.es.length n1) (.slice B1 b.ks.length m1)) := fun W hW => by
            obtain ⟨_, _, _, _, z, _, _, _, _, _, _, _, _, _, _⟩ := HX0.out W hW
            exact z
          have Hrc1_1 : Hid (∀ W, Below (w.heap.size + 3) (((w.alloc (.cells #[.slice A0 a.es.length n0, .slice B0 a.ks.length m0, .slice D0 ac.length k0] 29)).alloc (.cells #[.slice A1 b.es.length n1, .slice B1 b.ks.length m1, .slice D1 bc.length k1] 29)).alloc (.cells #[.int .i64 d.dc, .int .i64 d.n] 42)) W → SlP W (W).heap.size 3 SpE (.slice D1 bc.length k1) bc) := fun W hW => by
            obtain ⟨_, _, _, _, _, z, _, _, _, _, _, _, _, _, _⟩ := HX0.out W hW
            exact z
          have Hrl2_1 : Hid (∀ W, Below (w.heap.size + 3) (((w.alloc (.cells #[.slice A0 a.es.length n0, .slice B0 a.ks.length m0, .slice D0 ac.length k0] 29)).alloc (.cells #[.slice A1 b.es.length n1, .slice B1 b.ks.length m1, .slice D1 bc.length k1] 29)).alloc (.cells #[.int .i64 d.dc, .int .i64 d.n] 42)) W → SlP W (W).heap.size 1 StE (.slice A2 p.length n2) p) := fun W hW => by
            obtain ⟨_, _, _, _, _, _, z, _, _, _, _, _, _, _, _⟩ := HX0.out W hW
            exact z
          have HS_1 : Hid (∀ W, Below (w.heap.size + 3) (((w.alloc (.cells #[.slice A0 a.es.length n0, .slice B0 a.ks.length m0, .slice D0 ac.length k0] 29)).alloc (.cells #[.slice A1 b.es.length n1, .slice B1 b.ks.length m1, .slice D1 bc.length k1] 29)).alloc (.cells #[.int .i64 d.dc, .int .i64 d.n] 42)) W → (w.heap.size + 3) ≤ W.heap.size) := fun W hW => by
            have := hW.size
            first | omega | (simp at this; omega)
          have hsb1 := HS_1.out _ hbk3.out
          clear hB rt0 rc0 rt1 rc1 rl2
          go_region_held3 (fun W => (W).cell? ⟨w.heap.size, 0, none⟩ = some (.slice A0 a.es.length n0) ∧ (W).cell? ⟨w.heap.size, 1, none⟩ = some (.slice B0 a.ks.length m0) ∧ (W).cell? ⟨w.heap.size, 2, none⟩ = some (.slice D0 ac.length k0) ∧ (W).cell? ⟨(w.heap.size + 1), 0, none⟩ = some (.slice A1 b.es.length n1) ∧ (W).cell? ⟨(w.heap.size + 1), 1, none⟩ = some (.slice B1 b.ks.length m1) ∧ (W).cell? ⟨(w.heap.size + 1), 2, none⟩ = some (.slice D1 bc.length k1) ∧ (W).cell? ⟨(w.heap.size + 2), 0, none⟩ = some (.int .i64 d.dc) ∧ (W).cell? ⟨(w.heap.size + 2), 1, none⟩ = some (.int .i64 d.n))
            (first | go_keep | exact HK1.out _ hbr5.out | exact HK1.out _ (hbr5.out.trans (by go_grown)) | exact HK1.out _ hbr4.out | exact HK1.out _ (hbr4.out.trans (by go_grown)) | exact HK1.out _ (((hbr5.out.setCell (by first | (simp; done) | (simp; omega)) _).setCell (by first | (simp; done) | (simp; omega)) _).setCell (by first | (simp; done) | (simp; omega)) _) | exact HK1.out _ (hbk3.out.trans (by go_grown)) | fail)
            (first
              | (go_at_call 33; go_loud ((refine (has09_any b bc p d _ _ _ _ _ (Hrt1_1.out _ (hbr4.out.trans (by go_grown))) (Hrc1_1.out _ (hbr4.out.trans (by go_grown))) (Hrl2_1.out _ (hbr4.out.trans (by go_grown))) (by omega)).mono ?_); rw [HQ.out]; rintro e w5 ⟨rfl, hb⟩; have hbr5 : Hid (Below (w.heap.size + 3) (((w.alloc (.cells #[.slice A0 a.es.length n0, .slice B0 a.ks.length m0, .slice D0 ac.length k0] 29)).alloc (.cells #[.slice A1 b.es.length n1, .slice B1 b.ks.length m1, .slice D1 bc.length k1] 29)).alloc (.cells #[.int .i64 d.dc, .int .i64 d.n] 42)) w5) := hid (Below.trans (hbr4.out.trans (by go_grown)) (hb.mono (by first | omega | (simp; done) | (simp; omega)))); have hsr5 := HS_1.out _ hbr5.out; have hch4_5 : Hid (Below w4.heap.size w4 w5) := hid (Below.trans (by go_grown) (hb.mono (by first | omega | (simp; done) | (simp; omega)))); clear hb))
              | (go_at_call 33; go_loud ((refine (has09_any a ac p d _ _ _ _ _ (Hrt0_1.out _ (hbk3.out.trans (by go_grown))) (Hrc0_1.out _ (hbk3.out.trans (by go_grown))) (Hrl2_1.out _ (hbk3.out.trans (by go_grown))) (by omega)).mono ?_); rw [HP.out]; rintro e w4 ⟨rfl, hb⟩; have hbr4 : Hid (Below (w.heap.size + 3) (((w.alloc (.cells #[.slice A0 a.es.length n0, .slice B0 a.ks.length m0, .slice D0 ac.length k0] 29)).alloc (.cells #[.slice A1 b.es.length n1, .slice B1 b.ks.length m1, .slice D1 bc.length k1] 29)).alloc (.cells #[.int .i64 d.dc, .int .i64 d.n] 42)) w4) := hid (Below.trans (hbk3.out.trans (by go_grown)) (hb.mono (by first | omega | (simp; done) | (simp; omega)))); have hsr4 := HS_1.out _ hbr4.out; clear hb)))
          clear hs c00 c01 c02 c10 c11 c12 c30 c31
          obtain ⟨hB, hs, rt0, rc0, rt1, rc1, rl2, c00, c01, c02, c10, c11, c12, c30, c31⟩ := HX0.out _ hbr5.out
          go_wp2_with fail
          refine (r07has_any bc d _ _ rc1 (by omega)).mono ?_
          rw [HKB.out]
          rintro e w6 ⟨rfl, hb⟩
          have hbk6 : Hid (Below (w.heap.size + 3) (((w.alloc (.cells #[.slice A0 a.es.length n0, .slice B0 a.ks.length m0, .slice D0 ac.length k0] 29)).alloc (.cells #[.slice A1 b.es.length n1, .slice B1 b.ks.length m1, .slice D1 bc.length k1] 29)).alloc (.cells #[.int .i64 d.dc, .int .i64 d.n] 42)) w6) := hid (hbr5.out.trans (hb.mono (by first | omega | (simp; done) | (simp; omega))))
          clear hb
          clear hB hs rt0 rc0 rt1 rc1 rl2 c00 c01 c02 c10 c11 c12 c30 c31
          obtain ⟨hB, hs, rt0, rc0, rt1, rc1, rl2, c00, c01, c02, c10, c11, c12, c30, c31⟩ := HX0.out _ hbk6.out
          go_upto_region 5 with (fail)
          have HK2 : Hid (∀ W, Below (w.heap.size + 3) (((w.alloc (.cells #[.slice A0 a.es.length n0, .slice B0 a.ks.length m0, .slice D0 ac.length k0] 29)).alloc (.cells #[.slice A1 b.es.length n1, .slice B1 b.ks.length m1, .slice D1 bc.length k1] 29)).alloc (.cells #[.int .i64 d.dc, .int .i64 d.n] 42)) W → ((W).cell? ⟨w.heap.size, 0, none⟩ = some (.slice A0 a.es.length n0) ∧ (W).cell? ⟨w.heap.size, 1, none⟩ = some (.slice B0 a.ks.length m0) ∧ (W).cell? ⟨w.heap.size, 2, none⟩ = some (.slice D0 ac.length k0) ∧ (W).cell? ⟨(w.heap.size + 1), 0, none⟩ = some (.slice A1 b.es.length n1) ∧ (W).cell? ⟨(w.heap.size + 1), 1, none⟩ = some (.slice B1 b.ks.length m1) ∧ (W).cell? ⟨(w.heap.size + 1), 2, none⟩ = some (.slice D1 bc.length k1) ∧ (W).cell? ⟨(w.heap.size + 2), 0, none⟩ = some (.int .i64 d.dc) ∧ (W).cell? ⟨(w.heap.size + 2), 1, none⟩ = some (.int .i64 d.n))) := fun W hW => by
            obtain ⟨_, _, _, _, _, _, _, z_c00, z_c01, z_c02, z_c10, z_c11, z_c12, z_c30, z_c31⟩ := HX0.out W hW
            exact ⟨z_c00, z_c01, z_c02, z_c10, z_c11, z_c12, z_c30, z_c31⟩
          have Hrt0_2 : Hid (∀ W, Below (w.heap.size + 3) (((w.alloc (.cells #[.slice A0 a.es.length n0, .slice B0 a.ks.length m0, .slice D0 ac.length k0] 29)).alloc (.cells #[.slice A1 b.es.length n1, .slice B1 b.ks.length m1, .slice D1 bc.length k1] 29)).alloc (.cells #[.int .i64 d.dc, .int .i64 d.n] 42)) W → a.rd W (W).heap.size (.slice A0 a.es.length n0) (.slice B0 a.ks.length m0)) := fun W hW => by
            obtain ⟨_, _, z, _, _, _, _, _, _, _, _, _, _, _, _⟩ := HX0.out W hW
            exact z
          have Hrc0_2 : Hid (∀ W, Below (w.heap.size + 3) (((w.alloc (.cells #[.slice A0 a.es.length n0, .slice B0 a.ks.length m0, .slice D0 ac.length k0] 29)).alloc (.cells #[.slice A1 b.es.length n1, .slice B1 b.ks.length m1, .slice D1 bc.length k1] 29)).alloc (.cells #[.int .i64 d.dc, .int .i64 d.n] 42)) W → SlP W (W).heap.size 3 SpE (.slice D0 ac.length k0) ac) := fun W hW => by
            obtain ⟨_, _, _, z, _, _, _, _, _, _, _, _, _, _, _⟩ := HX0.out W hW
            exact z
          have Hrt1_2 : Hid (∀ W, Below (w.heap.size + 3) (((w.alloc (.cells #[.slice A0 a.es.length n0, .slice B0 a.ks.length m0, .slice D0 ac.length k0] 29)).alloc (.cells #[.slice A1 b.es.length n1, .slice B1 b.ks.length m1, .slice D1 bc.length k1] 29)).alloc (.cells #[.int .i64 d.dc, .int .i64 d.n] 42)) W → b.rd W (W).heap.size (.slice A1 b.es.length n1) (.slice B1 b.ks.length m1)) := fun W hW => by
            obtain ⟨_, _, _, _, z, _, _, _, _, _, _, _, _, _, _⟩ := HX0.out W hW
            exact z
          have Hrc1_2 : Hid (∀ W, Below (w.heap.size + 3) (((w.alloc (.cells #[.slice A0 a.es.length n0, .slice B0 a.ks.length m0, .slice D0 ac.length k0] 29)).alloc (.cells #[.slice A1 b.es.length n1, .slice B1 b.ks.length m1, .slice D1 bc.length k1] 29)).alloc (.cells #[.int .i64 d.dc, .int .i64 d.n] 42)) W → SlP W (W).heap.size 3 SpE (.slice D1 bc.length k1) bc) := fun W hW => by
            obtain ⟨_, _, _, _, _, z, _, _, _, _, _, _, _, _, _⟩ := HX0.out W hW
            exact z
          have Hrl2_2 : Hid (∀ W, Below (w.heap.size + 3) (((w.alloc (.cells #[.slice A0 a.es.length n0, .slice B0 a.ks.length m0, .slice D0 ac.length k0] 29)).alloc (.cells #[.slice A1 b.es.length n1, .slice B1 b.ks.length m1, .slice D1 bc.length k1] 29)).alloc (.cells #[.int .i64 d.dc, .int .i64 d.n] 42)) W → SlP W (W).heap.size 1 StE (.slice A2 p.length n2) p) := fun W hW => by
            obtain ⟨_, _, _, _, _, _, z, _, _, _, _, _, _, _, _⟩ := HX0.out W hW
            exact z
          have HS_2 : Hid (∀ W, Below (w.heap.size + 3) (((w.alloc (.cells #[.slice A0 a.es.length n0, .slice B0 a.ks.length m0, .slice D0 ac.length k0] 29)).alloc (.cells #[.slice A1 b.es.length n1, .slice B1 b.ks.length m1, .slice D1 bc.length k1] 29)).alloc (.cells #[.int .i64 d.dc, .int .i64 d.n] 42)) W → (w.heap.size + 3) ≤ W.heap.size) := fun W hW => by
            have := hW.size
            first | omega | (simp at this; omega)
          have hsb2 := HS_2.out _ hbk6.out
          clear hB rt0 rc0 rt1 rc1 rl2
          go_region_held3 (fun W => (W).cell? ⟨w.heap.size, 0, none⟩ = some (.slice A0 a.es.length n0) ∧ (W).cell? ⟨w.heap.size, 1, none⟩ = some (.slice B0 a.ks.length m0) ∧ (W).cell? ⟨w.heap.size, 2, none⟩ = some (.slice D0 ac.length k0) ∧ (W).cell? ⟨(w.heap.size + 1), 0, none⟩ = some (.slice A1 b.es.length n1) ∧ (W).cell? ⟨(w.heap.size + 1), 1, none⟩ = some (.slice B1 b.ks.length m1) ∧ (W).cell? ⟨(w.heap.size + 1), 2, none⟩ = some (.slice D1 bc.length k1) ∧ (W).cell? ⟨(w.heap.size + 2), 0, none⟩ = some (.int .i64 d.dc) ∧ (W).cell? ⟨(w.heap.size + 2), 1, none⟩ = some (.int .i64 d.n))
            (first | go_keep | exact HK2.out _ hbr8.out | exact HK2.out _ (hbr8.out.trans (by go_grown)) | exact HK2.out _ hbr7.out | exact HK2.out _ (hbr7.out.trans (by go_grown)) | exact HK2.out _ (((hbr8.out.setCell (by first | (simp; done) | (simp; omega)) _).setCell (by first | (simp; done) | (simp; omega)) _).setCell (by first | (simp; done) | (simp; omega)) _) | exact HK2.out _ (hbk6.out.trans (by go_grown)) | fail)
            (first
              | (go_at_call 33; go_loud ((refine (has09_any T C p d _ _ _ _ _ (HRr.out _ (by go_grown)) (HLr.out _ (by go_grown)) (Hrl2_2.out _ (hbr7.out.trans (by go_grown))) (by omega)).mono ?_); rw [HW.out]; rintro e w8 ⟨rfl, hb⟩; have hbr8 : Hid (Below (w.heap.size + 3) (((w.alloc (.cells #[.slice A0 a.es.length n0, .slice B0 a.ks.length m0, .slice D0 ac.length k0] 29)).alloc (.cells #[.slice A1 b.es.length n1, .slice B1 b.ks.length m1, .slice D1 bc.length k1] 29)).alloc (.cells #[.int .i64 d.dc, .int .i64 d.n] 42)) w8) := hid (Below.trans (hbr7.out.trans (by go_grown)) (hb.mono (by first | omega | (simp; done) | (simp; omega)))); have hsr8 := HS_2.out _ hbr8.out; have hch7_8 : Hid (Below w7.heap.size w7 w8) := hid (Below.trans (by go_grown) (hb.mono (by first | omega | (simp; done) | (simp; omega)))); clear hb))
              | (go_at_call 35; go_loud ((refine (l09join_any ac bc a b _ _ _ _ _ _ _ (Hrt0_2.out _ (hbk6.out.trans (by go_grown))) (Hrt1_2.out _ (hbk6.out.trans (by go_grown))) (Hrc0_2.out _ (hbk6.out.trans (by go_grown))) (Hrc1_2.out _ (hbk6.out.trans (by go_grown))) (by omega) (by omega) (by omega) (by omega)).mono ?_); rw [HJT.out, HJC.out]; rintro e w7 ⟨xe7, xk7, xc7, rfl, hrd7, hsl7, hb⟩; have hbr7 : Hid (Below (w.heap.size + 3) (((w.alloc (.cells #[.slice A0 a.es.length n0, .slice B0 a.ks.length m0, .slice D0 ac.length k0] 29)).alloc (.cells #[.slice A1 b.es.length n1, .slice B1 b.ks.length m1, .slice D1 bc.length k1] 29)).alloc (.cells #[.int .i64 d.dc, .int .i64 d.n] 42)) w7) := hid (Below.trans (hbk6.out.trans (by go_grown)) (hb.mono (by first | omega | (simp; done) | (simp; omega)))); have hsr7 := HS_2.out _ hbr7.out; obtain ⟨Ar7, nr7, Br7, mr7, hv1, hv2⟩ := rda_shape hrd7; subst hv1; subst hv2; obtain ⟨Dr7, kr7, hv3⟩ := hsl7.shape; subst hv3; have HR7 := hid hrd7; have HL7 := hid hsl7; clear hrd7 hsl7; have HRr : Hid (∀ W, Below w7.heap.size w7 W → T.rd W W.heap.size (.slice Ar7 T.es.length nr7) (.slice Br7 T.ks.length mr7)) := fun W hW => rda_rd HR7.out (fun b hb => hb.2) hW; have HLr : Hid (∀ W, Below w7.heap.size w7 W → SlP W W.heap.size 3 SpE (.slice Dr7 C.length kr7) C) := fun W hW => HL7.out.slp (fun b hb => hb.2) hW; clear hb)))
          all_goals (
            obtain ⟨hB, hs, rt0, rc0, rt1, rc1, rl2, c00, c01, c02, c10, c11, c12, c30, c31⟩ := HX0.out _ hbr8.out
            go_wp2_with fail
            go_ret
            exact ⟨rfl, hB⟩)
        · skip
          go_upto_region 3 with (fail)
          have HK1 : Hid (∀ W, Below (w.heap.size + 3) (((w.alloc (.cells #[.slice A0 a.es.length n0, .slice B0 a.ks.length m0, .slice D0 ac.length k0] 29)).alloc (.cells #[.slice A1 b.es.length n1, .slice B1 b.ks.length m1, .slice D1 bc.length k1] 29)).alloc (.cells #[.int .i64 d.dc, .int .i64 d.n] 42)) W → ((W).cell? ⟨w.heap.size, 0, none⟩ = some (.slice A0 a.es.length n0) ∧ (W).cell? ⟨w.heap.size, 1, none⟩ = some (.slice B0 a.ks.length m0) ∧ (W).cell? ⟨w.heap.size, 2, none⟩ = some (.slice D0 ac.length k0) ∧ (W).cell? ⟨(w.heap.size + 1), 0, none⟩ = some (.slice A1 b.es.length n1) ∧ (W).cell? ⟨(w.heap.size + 1), 1, none⟩ = some (.slice B1 b.ks.length m1) ∧ (W).cell? ⟨(w.heap.size + 1), 2, none⟩ = some (.slice D1 bc.length k1) ∧ (W).cell? ⟨(w.heap.size + 2), 0, none⟩ = some (.int .i64 d.dc) ∧ (W).cell? ⟨(w.heap.size + 2), 1, none⟩ = some (.int .i64 d.n))) := fun W hW => by
            obtain ⟨_, _, _, _, _, _, _, z_c00, z_c01, z_c02, z_c10, z_c11, z_c12, z_c30, z_c31⟩ := HX0.out W hW
            exact ⟨z_c00, z_c01, z_c02, z_c10, z_c11, z_c12, z_c30, z_c31⟩
          have Hrt0_1 : Hid (∀ W, Below (w.heap.size + 3) (((w.alloc (.cells #[.slice A0 a.es.length n0, .slice B0 a.ks.length m0, .slice D0 ac.length k0] 29)).alloc (.cells #[.slice A1 b.es.length n1, .slice B1 b.ks.length m1, .slice D1 bc.length k1] 29)).alloc (.cells #[.int .i64 d.dc, .int .i64 d.n] 42)) W → a.rd W (W).heap.size (.slice A0 a.es.length n0) (.slice B0 a.ks.length m0)) := fun W hW => by
            obtain ⟨_, _, z, _, _, _, _, _, _, _, _, _, _, _, _⟩ := HX0.out W hW
            exact z
          have Hrc0_1 : Hid (∀ W, Below (w.heap.size + 3) (((w.alloc (.cells #[.slice A0 a.es.length n0, .slice B0 a.ks.length m0, .slice D0 ac.length k0] 29)).alloc (.cells #[.slice A1 b.es.length n1, .slice B1 b.ks.length m1, .slice D1 bc.length k1] 29)).alloc (.cells #[.int .i64 d.dc, .int .i64 d.n] 42)) W → SlP W (W).heap.size 3 SpE (.slice D0 ac.length k0) ac) := fun W hW => by
            obtain ⟨_, _, _, z, _, _, _, _, _, _, _, _, _, _, _⟩ := HX0.out W hW
            exact z
          have Hrt1_1 : Hid (∀ W, Below (w.heap.size + 3) (((w.alloc (.cells #[.slice A0 a.es.length n0, .slice B0 a.ks.length m0, .slice D0 ac.length k0] 29)).alloc (.cells #[.slice A1 b.es.length n1, .slice B1 b.ks.length m1, .slice D1 bc.length k1] 29)).alloc (.cells #[.int .i64 d.dc, .int .i64 d.n] 42)) W → b.rd W (W).heap.size (.slice A1 b.es.length n1) (.slice B1 b.ks.length m1)) := fun W hW => by
            obtain ⟨_, _, _, _, z, _, _, _, _, _, _, _, _, _, _⟩ := HX0.out W hW
            exact z
          have Hrc1_1 : Hid (∀ W, Below (w.heap.size + 3) (((w.alloc (.cells #[.slice A0 a.es.length n0, .slice B0 a.ks.length m0, .slice D0 ac.length k0] 29)).alloc (.cells #[.slice A1 b.es.length n1, .slice B1 b.ks.length m1, .slice D1 bc.length k1] 29)).alloc (.cells #[.int .i64 d.dc, .int .i64 d.n] 42)) W → SlP W (W).heap.size 3 SpE (.slice D1 bc.length k1) bc) := fun W hW => by
            obtain ⟨_, _, _, _, _, z, _, _, _, _, _, _, _, _, _⟩ := HX0.out W hW
            exact z
          have Hrl2_1 : Hid (∀ W, Below (w.heap.size + 3) (((w.alloc (.cells #[.slice A0 a.es.length n0, .slice B0 a.ks.length m0, .slice D0 ac.length k0] 29)).alloc (.cells #[.slice A1 b.es.length n1, .slice B1 b.ks.length m1, .slice D1 bc.length k1] 29)).alloc (.cells #[.int .i64 d.dc, .int .i64 d.n] 42)) W → SlP W (W).heap.size 1 StE (.slice A2 p.length n2) p) := fun W hW => by
            obtain ⟨_, _, _, _, _, _, z, _, _, _, _, _, _, _, _⟩ := HX0.out W hW
            exact z
          have HS_1 : Hid (∀ W, Below (w.heap.size + 3) (((w.alloc (.cells #[.slice A0 a.es.length n0, .slice B0 a.ks.length m0, .slice D0 ac.length k0] 29)).alloc (.cells #[.slice A1 b.es.length n1, .slice B1 b.ks.length m1, .slice D1 bc.length k1] 29)).alloc (.cells #[.int .i64 d.dc, .int .i64 d.n] 42)) W → (w.heap.size + 3) ≤ W.heap.size) := fun W hW => by
            have := hW.size
            first | omega | (simp at this; omega)
          have hsb1 := HS_1.out _ hbk3.out
          clear hB rt0 rc0 rt1 rc1 rl2
          go_region_held3 (fun W => (W).cell? ⟨w.heap.size, 0, none⟩ = some (.slice A0 a.es.length n0) ∧ (W).cell? ⟨w.heap.size, 1, none⟩ = some (.slice B0 a.ks.length m0) ∧ (W).cell? ⟨w.heap.size, 2, none⟩ = some (.slice D0 ac.length k0) ∧ (W).cell? ⟨(w.heap.size + 1), 0, none⟩ = some (.slice A1 b.es.length n1) ∧ (W).cell? ⟨(w.heap.size + 1), 1, none⟩ = some (.slice B1 b.ks.length m1) ∧ (W).cell? ⟨(w.heap.size + 1), 2, none⟩ = some (.slice D1 bc.length k1) ∧ (W).cell? ⟨(w.heap.size + 2), 0, none⟩ = some (.int .i64 d.dc) ∧ (W).cell? ⟨(w.heap.size + 2), 1, none⟩ = some (.int .i64 d.n))
            (first | go_keep | exact HK1.out _ hbr5.out | exact HK1.out _ (hbr5.out.trans (by go_grown)) | exact HK1.out _ hbr4.out | exact HK1.out _ (hbr4.out.trans (by go_grown)) | exact HK1.out _ (((hbr5.out.setCell (by first | (simp; done) | (simp; omega)) _).setCell (by first | (simp; done) | (simp; omega)) _).setCell (by first | (simp; done) | (simp; omega)) _) | exact HK1.out _ (hbk3.out.trans (by go_grown)) | fail)
            (first
              | (go_at_call 33; go_loud ((refine (has09_any b bc p d _ _ _ _ _ (Hrt1_1.out _ (hbr4.out.trans (by go_grown))) (Hrc1_1.out _ (hbr4.out.trans (by go_grown))) (Hrl2_1.out _ (hbr4.out.trans (by go_grown))) (by omega)).mono ?_); rw [HQ.out]; rintro e w5 ⟨rfl, hb⟩; have hbr5 : Hid (Below (w.heap.size + 3) (((w.alloc (.cells #[.slice A0 a.es.length n0, .slice B0 a.ks.length m0, .slice D0 ac.length k0] 29)).alloc (.cells #[.slice A1 b.es.length n1, .slice B1 b.ks.length m1, .slice D1 bc.length k1] 29)).alloc (.cells #[.int .i64 d.dc, .int .i64 d.n] 42)) w5) := hid (Below.trans (hbr4.out.trans (by go_grown)) (hb.mono (by first | omega | (simp; done) | (simp; omega)))); have hsr5 := HS_1.out _ hbr5.out; have hch4_5 : Hid (Below w4.heap.size w4 w5) := hid (Below.trans (by go_grown) (hb.mono (by first | omega | (simp; done) | (simp; omega)))); clear hb))
              | (go_at_call 33; go_loud ((refine (has09_any a ac p d _ _ _ _ _ (Hrt0_1.out _ (hbk3.out.trans (by go_grown))) (Hrc0_1.out _ (hbk3.out.trans (by go_grown))) (Hrl2_1.out _ (hbk3.out.trans (by go_grown))) (by omega)).mono ?_); rw [HP.out]; rintro e w4 ⟨rfl, hb⟩; have hbr4 : Hid (Below (w.heap.size + 3) (((w.alloc (.cells #[.slice A0 a.es.length n0, .slice B0 a.ks.length m0, .slice D0 ac.length k0] 29)).alloc (.cells #[.slice A1 b.es.length n1, .slice B1 b.ks.length m1, .slice D1 bc.length k1] 29)).alloc (.cells #[.int .i64 d.dc, .int .i64 d.n] 42)) w4) := hid (Below.trans (hbk3.out.trans (by go_grown)) (hb.mono (by first | omega | (simp; done) | (simp; omega)))); have hsr4 := HS_1.out _ hbr4.out; clear hb)))
          clear hs c00 c01 c02 c10 c11 c12 c30 c31
          obtain ⟨hB, hs, rt0, rc0, rt1, rc1, rl2, c00, c01, c02, c10, c11, c12, c30, c31⟩ := HX0.out _ hbr5.out
          go_wp2_with fail
          refine (r07has_any bc d _ _ rc1 (by omega)).mono ?_
          rw [HKB.out]
          rintro e w6 ⟨rfl, hb⟩
          have hbk6 : Hid (Below (w.heap.size + 3) (((w.alloc (.cells #[.slice A0 a.es.length n0, .slice B0 a.ks.length m0, .slice D0 ac.length k0] 29)).alloc (.cells #[.slice A1 b.es.length n1, .slice B1 b.ks.length m1, .slice D1 bc.length k1] 29)).alloc (.cells #[.int .i64 d.dc, .int .i64 d.n] 42)) w6) := hid (hbr5.out.trans (hb.mono (by first | omega | (simp; done) | (simp; omega))))
          clear hb
          clear hB hs rt0 rc0 rt1 rc1 rl2 c00 c01 c02 c10 c11 c12 c30 c31
          obtain ⟨hB, hs, rt0, rc0, rt1, rc1, rl2, c00, c01, c02, c10, c11, c12, c30, c31⟩ := HX0.out _ hbk6.out
          go_upto_region 5 with (fail)
          have HK2 : Hid (∀ W, Below (w.heap.size + 3) (((w.alloc (.cells #[.slice A0 a.es.length n0, .slice B0 a.ks.length m0, .slice D0 ac.length k0] 29)).alloc (.cells #[.slice A1 b.es.length n1, .slice B1 b.ks.length m1, .slice D1 bc.length k1] 29)).alloc (.cells #[.int .i64 d.dc, .int .i64 d.n] 42)) W → ((W).cell? ⟨w.heap.size, 0, none⟩ = some (.slice A0 a.es.length n0) ∧ (W).cell? ⟨w.heap.size, 1, none⟩ = some (.slice B0 a.ks.length m0) ∧ (W).cell? ⟨w.heap.size, 2, none⟩ = some (.slice D0 ac.length k0) ∧ (W).cell? ⟨(w.heap.size + 1), 0, none⟩ = some (.slice A1 b.es.length n1) ∧ (W).cell? ⟨(w.heap.size + 1), 1, none⟩ = some (.slice B1 b.ks.length m1) ∧ (W).cell? ⟨(w.heap.size + 1), 2, none⟩ = some (.slice D1 bc.length k1) ∧ (W).cell? ⟨(w.heap.size + 2), 0, none⟩ = some (.int .i64 d.dc) ∧ (W).cell? ⟨(w.heap.size + 2), 1, none⟩ = some (.int .i64 d.n))) := fun W hW => by
            obtain ⟨_, _, _, _, _, _, _, z_c00, z_c01, z_c02, z_c10, z_c11, z_c12, z_c30, z_c31⟩ := HX0.out W hW
            exact ⟨z_c00, z_c01, z_c02, z_c10, z_c11, z_c12, z_c30, z_c31⟩
          have Hrt0_2 : Hid (∀ W, Below (w.heap.size + 3) (((w.alloc (.cells #[.slice A0 a.es.length n0, .slice B0 a.ks.length m0, .slice D0 ac.length k0] 29)).alloc (.cells #[.slice A1 b.es.length n1, .slice B1 b.ks.length m1, .slice D1 bc.length k1] 29)).alloc (.cells #[.int .i64 d.dc, .int .i64 d.n] 42)) W → a.rd W (W).heap.size (.slice A0 a.es.length n0) (.slice B0 a.ks.length m0)) := fun W hW => by
            obtain ⟨_, _, z, _, _, _, _, _, _, _, _, _, _, _, _⟩ := HX0.out W hW
            exact z
          have Hrc0_2 : Hid (∀ W, Below (w.heap.size + 3) (((w.alloc (.cells #[.slice A0 a.es.length n0, .slice B0 a.ks.length m0, .slice D0 ac.length k0] 29)).alloc (.cells #[.slice A1 b.es.length n1, .slice B1 b.ks.length m1, .slice D1 bc.length k1] 29)).alloc (.cells #[.int .i64 d.dc, .int .i64 d.n] 42)) W → SlP W (W).heap.size 3 SpE (.slice D0 ac.length k0) ac) := fun W hW => by
            obtain ⟨_, _, _, z, _, _, _, _, _, _, _, _, _, _, _⟩ := HX0.out W hW
            exact z
          have Hrt1_2 : Hid (∀ W, Below (w.heap.size + 3) (((w.alloc (.cells #[.slice A0 a.es.length n0, .slice B0 a.ks.length m0, .slice D0 ac.length k0] 29)).alloc (.cells #[.slice A1 b.es.length n1, .slice B1 b.ks.length m1, .slice D1 bc.length k1] 29)).alloc (.cells #[.int .i64 d.dc, .int .i64 d.n] 42)) W → b.rd W (W).heap.size (.slice A1 b.es.length n1) (.slice B1 b.ks.length m1)) := fun W hW => by
            obtain ⟨_, _, _, _, z, _, _, _, _, _, _, _, _, _, _⟩ := HX0.out W hW
            exact z
          have Hrc1_2 : Hid (∀ W, Below (w.heap.size + 3) (((w.alloc (.cells #[.slice A0 a.es.length n0, .slice B0 a.ks.length m0, .slice D0 ac.length k0] 29)).alloc (.cells #[.slice A1 b.es.length n1, .slice B1 b.ks.length m1, .slice D1 bc.length k1] 29)).alloc (.cells #[.int .i64 d.dc, .int .i64 d.n] 42)) W → SlP W (W).heap.size 3 SpE (.slice D1 bc.length k1) bc) := fun W hW => by
            obtain ⟨_, _, _, _, _, z, _, _, _, _, _, _, _, _, _⟩ := HX0.out W hW
            exact z
          have Hrl2_2 : Hid (∀ W, Below (w.heap.size + 3) (((w.alloc (.cells #[.slice A0 a.es.length n0, .slice B0 a.ks.length m0, .slice D0 ac.length k0] 29)).alloc (.cells #[.slice A1 b.es.length n1, .slice B1 b.ks.length m1, .slice D1 bc.length k1] 29)).alloc (.cells #[.int .i64 d.dc, .int .i64 d.n] 42)) W → SlP W (W).heap.size 1 StE (.slice A2 p.length n2) p) := fun W hW => by
            obtain ⟨_, _, _, _, _, _, z, _, _, _, _, _, _, _, _⟩ := HX0.out W hW
            exact z
          have HS_2 : Hid (∀ W, Below (w.heap.size + 3) (((w.alloc (.cells #[.slice A0 a.es.length n0, .slice B0 a.ks.length m0, .slice D0 ac.length k0] 29)).alloc (.cells #[.slice A1 b.es.length n1, .slice B1 b.ks.length m1, .slice D1 bc.length k1] 29)).alloc (.cells #[.int .i64 d.dc, .int .i64 d.n] 42)) W → (w.heap.size + 3) ≤ W.heap.size) := fun W hW => by
            have := hW.size
            first | omega | (simp at this; omega)
          have hsb2 := HS_2.out _ hbk6.out
          clear hB rt0 rc0 rt1 rc1 rl2
          go_region_held3 (fun W => (W).cell? ⟨w.heap.size, 0, none⟩ = some (.slice A0 a.es.length n0) ∧ (W).cell? ⟨w.heap.size, 1, none⟩ = some (.slice B0 a.ks.length m0) ∧ (W).cell? ⟨w.heap.size, 2, none⟩ = some (.slice D0 ac.length k0) ∧ (W).cell? ⟨(w.heap.size + 1), 0, none⟩ = some (.slice A1 b.es.length n1) ∧ (W).cell? ⟨(w.heap.size + 1), 1, none⟩ = some (.slice B1 b.ks.length m1) ∧ (W).cell? ⟨(w.heap.size + 1), 2, none⟩ = some (.slice D1 bc.length k1) ∧ (W).cell? ⟨(w.heap.size + 2), 0, none⟩ = some (.int .i64 d.dc) ∧ (W).cell? ⟨(w.heap.size + 2), 1, none⟩ = some (.int .i64 d.n))
            (first | go_keep | exact HK2.out _ hbr8.out | exact HK2.out _ (hbr8.out.trans (by go_grown)) | exact HK2.out _ hbr7.out | exact HK2.out _ (hbr7.out.trans (by go_grown)) | exact HK2.out _ (((hbr8.out.setCell (by first | (simp; done) | (simp; omega)) _).setCell (by first | (simp; done) | (simp; omega)) _).setCell (by first | (simp; done) | (simp; omega)) _) | exact HK2.out _ (hbk6.out.trans (by go_grown)) | fail)
            (first
              | (go_at_call 33; go_loud ((refine (has09_any T C p d _ _ _ _ _ (HRr.out _ (by go_grown)) (HLr.out _ (by go_grown)) (Hrl2_2.out _ (hbr7.out.trans (by go_grown))) (by omega)).mono ?_); rw [HW.out]; rintro e w8 ⟨rfl, hb⟩; have hbr8 : Hid (Below (w.heap.size + 3) (((w.alloc (.cells #[.slice A0 a.es.length n0, .slice B0 a.ks.length m0, .slice D0 ac.length k0] 29)).alloc (.cells #[.slice A1 b.es.length n1, .slice B1 b.ks.length m1, .slice D1 bc.length k1] 29)).alloc (.cells #[.int .i64 d.dc, .int .i64 d.n] 42)) w8) := hid (Below.trans (hbr7.out.trans (by go_grown)) (hb.mono (by first | omega | (simp; done) | (simp; omega)))); have hsr8 := HS_2.out _ hbr8.out; have hch7_8 : Hid (Below w7.heap.size w7 w8) := hid (Below.trans (by go_grown) (hb.mono (by first | omega | (simp; done) | (simp; omega)))); clear hb))
              | (go_at_call 35; go_loud ((refine (l09join_any ac bc a b _ _ _ _ _ _ _ (Hrt0_2.out _ (hbk6.out.trans (by go_grown))) (Hrt1_2.out _ (hbk6.out.trans (by go_grown))) (Hrc0_2.out _ (hbk6.out.trans (by go_grown))) (Hrc1_2.out _ (hbk6.out.trans (by go_grown))) (by omega) (by omega) (by omega) (by omega)).mono ?_); rw [HJT.out, HJC.out]; rintro e w7 ⟨xe7, xk7, xc7, rfl, hrd7, hsl7, hb⟩; have hbr7 : Hid (Below (w.heap.size + 3) (((w.alloc (.cells #[.slice A0 a.es.length n0, .slice B0 a.ks.length m0, .slice D0 ac.length k0] 29)).alloc (.cells #[.slice A1 b.es.length n1, .slice B1 b.ks.length m1, .slice D1 bc.length k1] 29)).alloc (.cells #[.int .i64 d.dc, .int .i64 d.n] 42)) w7) := hid (Below.trans (hbk6.out.trans (by go_grown)) (hb.mono (by first | omega | (simp; done) | (simp; omega)))); have hsr7 := HS_2.out _ hbr7.out; obtain ⟨Ar7, nr7, Br7, mr7, hv1, hv2⟩ := rda_shape hrd7; subst hv1; subst hv2; obtain ⟨Dr7, kr7, hv3⟩ := hsl7.shape; subst hv3; have HR7 := hid hrd7; have HL7 := hid hsl7; clear hrd7 hsl7; have HRr : Hid (∀ W, Below w7.heap.size w7 W → T.rd W W.heap.size (.slice Ar7 T.es.length nr7) (.slice Br7 T.ks.length mr7)) := fun W hW => rda_rd HR7.out (fun b hb => hb.2) hW; have HLr : Hid (∀ W, Below w7.heap.size w7 W → SlP W W.heap.size 3 SpE (.slice Dr7 C.length kr7) C) := fun W hW => HL7.out.slp (fun b hb => hb.2) hW; clear hb)))
          all_goals (
            obtain ⟨hB, hs, rt0, rc0, rt1, rc1, rl2, c00, c01, c02, c10, c11, c12, c30, c31⟩ := HX0.out _ hbr8.out
            go_wp2_with fail
            go_ret
            exact ⟨rfl, hB⟩)
      · skip
        go_upto_region 3 with (fail)
        have HK1 : Hid (∀ W, Below (w.heap.size + 3) (((w.alloc (.cells #[.slice A0 a.es.length n0, .slice B0 a.ks.length m0, .slice D0 ac.length k0] 29)).alloc (.cells #[.slice A1 b.es.length n1, .slice B1 b.ks.length m1, .slice D1 bc.length k1] 29)).alloc (.cells #[.int .i64 d.dc, .int .i64 d.n] 42)) W → ((W).cell? ⟨w.heap.size, 0, none⟩ = some (.slice A0 a.es.length n0) ∧ (W).cell? ⟨w.heap.size, 1, none⟩ = some (.slice B0 a.ks.length m0) ∧ (W).cell? ⟨w.heap.size, 2, none⟩ = some (.slice D0 ac.length k0) ∧ (W).cell? ⟨(w.heap.size + 1), 0, none⟩ = some (.slice A1 b.es.length n1) ∧ (W).cell? ⟨(w.heap.size + 1), 1, none⟩ = some (.slice B1 b.ks.length m1) ∧ (W).cell? ⟨(w.heap.size + 1), 2, none⟩ = some (.slice D1 bc.length k1) ∧ (W).cell? ⟨(w.heap.size + 2), 0, none⟩ = some (.int .i64 d.dc) ∧ (W).cell? ⟨(w.heap.size + 2), 1, none⟩ = some (.int .i64 d.n))) := fun W hW => by
          obtain ⟨_, _, _, _, _, _, _, z_c00, z_c01, z_c02, z_c10, z_c11, z_c12, z_c30, z_c31⟩ := HX0.out W hW
          exact ⟨z_c00, z_c01, z_c02, z_c10, z_c11, z_c12, z_c30, z_c31⟩
        have Hrt0_1 : Hid (∀ W, Below (w.heap.size + 3) (((w.alloc (.cells #[.slice A0 a.es.length n0, .slice B0 a.ks.length m0, .slice D0 ac.length k0] 29)).alloc (.cells #[.slice A1 b.es.length n1, .slice B1 b.ks.length m1, .slice D1 bc.length k1] 29)).alloc (.cells #[.int .i64 d.dc, .int .i64 d.n] 42)) W → a.rd W (W).heap.size (.slice A0 a.es.length n0) (.slice B0 a.ks.length m0)) := fun W hW => by
          obtain ⟨_, _, z, _, _, _, _, _, _, _, _, _, _, _, _⟩ := HX0.out W hW
          exact z
        have Hrc0_1 : Hid (∀ W, Below (w.heap.size + 3) (((w.alloc (.cells #[.slice A0 a.es.length n0, .slice B0 a.ks.length m0, .slice D0 ac.length k0] 29)).alloc (.cells #[.slice A1 b.es.length n1, .slice B1 b.ks.length m1, .slice D1 bc.length k1] 29)).alloc (.cells #[.int .i64 d.dc, .int .i64 d.n] 42)) W → SlP W (W).heap.size 3 SpE (.slice D0 ac.length k0) ac) := fun W hW => by
          obtain ⟨_, _, _, z, _, _, _, _, _, _, _, _, _, _, _⟩ := HX0.out W hW
          exact z
        have Hrt1_1 : Hid (∀ W, Below (w.heap.size + 3) (((w.alloc (.cells #[.slice A0 a.es.length n0, .slice B0 a.ks.length m0, .slice D0 ac.length k0] 29)).alloc (.cells #[.slice A1 b.es.length n1, .slice B1 b.ks.length m1, .slice D1 bc.length k1] 29)).alloc (.cells #[.int .i64 d.dc, .int .i64 d.n] 42)) W → b.rd W (W).heap.size (.slice A1 b.es.length n1) (.slice B1 b.ks.length m1)) := fun W hW => by
          obtain ⟨_, _, _, _, z, _, _, _, _, _, _, _, _, _, _⟩ := HX0.out W hW
          exact z
        have Hrc1_1 : Hid (∀ W, Below (w.heap.size + 3) (((w.alloc (.cells #[.slice A0 a.es.length n0, .slice B0 a.ks.length m0, .slice D0 ac.length k0] 29)).alloc (.cells #[.slice A1 b.es.length n1, .slice B1 b.ks.length m1, .slice D1 bc.length k1] 29)).alloc (.cells #[.int .i64 d.dc, .int .i64 d.n] 42)) W → SlP W (W).heap.size 3 SpE (.slice D1 bc.length k1) bc) := fun W hW => by
          obtain ⟨_, _, _, _, _, z, _, _, _, _, _, _, _, _, _⟩ := HX0.out W hW
          exact z
        have Hrl2_1 : Hid (∀ W, Below (w.heap.size + 3) (((w.alloc (.cells #[.slice A0 a.es.length n0, .slice B0 a.ks.length m0, .slice D0 ac.length k0] 29)).alloc (.cells #[.slice A1 b.es.length n1, .slice B1 b.ks.length m1, .slice D1 bc.length k1] 29)).alloc (.cells #[.int .i64 d.dc, .int .i64 d.n] 42)) W → SlP W (W).heap.size 1 StE (.slice A2 p.length n2) p) := fun W hW => by
          obtain ⟨_, _, _, _, _, _, z, _, _, _, _, _, _, _, _⟩ := HX0.out W hW
          exact z
        have HS_1 : Hid (∀ W, Below (w.heap.size + 3) (((w.alloc (.cells #[.slice A0 a.es.length n0, .slice B0 a.ks.length m0, .slice D0 ac.length k0] 29)).alloc (.cells #[.slice A1 b.es.length n1, .slice B1 b.ks.length m1, .slice D1 bc.length k1] 29)).alloc (.cells #[.int .i64 d.dc, .int .i64 d.n] 42)) W → (w.heap.size + 3) ≤ W.heap.size) := fun W hW => by
          have := hW.size
          first | omega | (simp at this; omega)
        have hsb1 := HS_1.out _ hbk3.out
        clear hB rt0 rc0 rt1 rc1 rl2
        go_region_held3 (fun W => (W).cell? ⟨w.heap.size, 0, none⟩ = some (.slice A0 a.es.length n0) ∧ (W).cell? ⟨w.heap.size, 1, none⟩ = some (.slice B0 a.ks.length m0) ∧ (W).cell? ⟨w.heap.size, 2, none⟩ = some (.slice D0 ac.length k0) ∧ (W).cell? ⟨(w.heap.size + 1), 0, none⟩ = some (.slice A1 b.es.length n1) ∧ (W).cell? ⟨(w.heap.size + 1), 1, none⟩ = some (.slice B1 b.ks.length m1) ∧ (W).cell? ⟨(w.heap.size + 1), 2, none⟩ = some (.slice D1 bc.length k1) ∧ (W).cell? ⟨(w.heap.size + 2), 0, none⟩ = some (.int .i64 d.dc) ∧ (W).cell? ⟨(w.heap.size + 2), 1, none⟩ = some (.int .i64 d.n))
          (first | go_keep | exact HK1.out _ hbr5.out | exact HK1.out _ (hbr5.out.trans (by go_grown)) | exact HK1.out _ hbr4.out | exact HK1.out _ (hbr4.out.trans (by go_grown)) | exact HK1.out _ (((hbr5.out.setCell (by first | (simp; done) | (simp; omega)) _).setCell (by first | (simp; done) | (simp; omega)) _).setCell (by first | (simp; done) | (simp; omega)) _) | exact HK1.out _ (hbk3.out.trans (by go_grown)) | fail)
          (first
            | (go_at_call 33; go_loud ((refine (has09_any b bc p d _ _ _ _ _ (Hrt1_1.out _ (hbr4.out.trans (by go_grown))) (Hrc1_1.out _ (hbr4.out.trans (by go_grown))) (Hrl2_1.out _ (hbr4.out.trans (by go_grown))) (by omega)).mono ?_); rw [HQ.out]; rintro e w5 ⟨rfl, hb⟩; have hbr5 : Hid (Below (w.heap.size + 3) (((w.alloc (.cells #[.slice A0 a.es.length n0, .slice B0 a.ks.length m0, .slice D0 ac.length k0] 29)).alloc (.cells #[.slice A1 b.es.length n1, .slice B1 b.ks.length m1, .slice D1 bc.length k1] 29)).alloc (.cells #[.int .i64 d.dc, .int .i64 d.n] 42)) w5) := hid (Below.trans (hbr4.out.trans (by go_grown)) (hb.mono (by first | omega | (simp; done) | (simp; omega)))); have hsr5 := HS_1.out _ hbr5.out; have hch4_5 : Hid (Below w4.heap.size w4 w5) := hid (Below.trans (by go_grown) (hb.mono (by first | omega | (simp; done) | (simp; omega)))); clear hb))
            | (go_at_call 33; go_loud ((refine (has09_any a ac p d _ _ _ _ _ (Hrt0_1.out _ (hbk3.out.trans (by go_grown))) (Hrc0_1.out _ (hbk3.out.trans (by go_grown))) (Hrl2_1.out _ (hbk3.out.trans (by go_grown))) (by omega)).mono ?_); rw [HP.out]; rintro e w4 ⟨rfl, hb⟩; have hbr4 : Hid (Below (w.heap.size + 3) (((w.alloc (.cells #[.slice A0 a.es.length n0, .slice B0 a.ks.length m0, .slice D0 ac.length k0] 29)).alloc (.cells #[.slice A1 b.es.length n1, .slice B1 b.ks.length m1, .slice D1 bc.length k1] 29)).alloc (.cells #[.int .i64 d.dc, .int .i64 d.n] 42)) w4) := hid (Below.trans (hbk3.out.trans (by go_grown)) (hb.mono (by first | omega | (simp; done) | (simp; omega)))); have hsr4 := HS_1.out _ hbr4.out; clear hb)))
        clear hs c00 c01 c02 c10 c11 c12 c30 c31
        obtain ⟨hB, hs, rt0, rc0, rt1, rc1, rl2, c00, c01, c02, c10, c11, c12, c30, c31⟩ := HX0.out _ hbr5.out
        go_upto_region 5 with (fail)
        have HK2 : Hid (∀ W, Below (w.heap.size + 3) (((w.alloc (.cells #[.slice A0 a.es.length n0, .slice B0 a.ks.length m0, .slice D0 ac.length k0] 29)).alloc (.cells #[.slice A1 b.es.length n1, .slice B1 b.ks.length m1, .slice D1 bc.length k1] 29)).alloc (.cells #[.int .i64 d.dc, .int .i64 d.n] 42)) W → ((W).cell? ⟨w.heap.size, 0, none⟩ = some (.slice A0 a.es.length n0) ∧ (W).cell? ⟨w.heap.size, 1, none⟩ = some (.slice B0 a.ks.length m0) ∧ (W).cell? ⟨w.heap.size, 2, none⟩ = some (.slice D0 ac.length k0) ∧ (W).cell? ⟨(w.heap.size + 1), 0, none⟩ = some (.slice A1 b.es.length n1) ∧ (W).cell? ⟨(w.heap.size + 1), 1, none⟩ = some (.slice B1 b.ks.length m1) ∧ (W).cell? ⟨(w.heap.size + 1), 2, none⟩ = some (.slice D1 bc.length k1) ∧ (W).cell? ⟨(w.heap.size + 2), 0, none⟩ = some (.int .i64 d.dc) ∧ (W).cell? ⟨(w.heap.size + 2), 1, none⟩ = some (.int .i64 d.n))) := fun W hW => by
          obtain ⟨_, _, _, _, _, _, _, z_c00, z_c01, z_c02, z_c10, z_c11, z_c12, z_c30, z_c31⟩ := HX0.out W hW
          exact ⟨z_c00, z_c01, z_c02, z_c10, z_c11, z_c12, z_c30, z_c31⟩
        have Hrt0_2 : Hid (∀ W, Below (w.heap.size + 3) (((w.alloc (.cells #[.slice A0 a.es.length n0, .slice B0 a.ks.length m0, .slice D0 ac.length k0] 29)).alloc (.cells #[.slice A1 b.es.length n1, .slice B1 b.ks.length m1, .slice D1 bc.length k1] 29)).alloc (.cells #[.int .i64 d.dc, .int .i64 d.n] 42)) W → a.rd W (W).heap.size (.slice A0 a.es.length n0) (.slice B0 a.ks.length m0)) := fun W hW => by
          obtain ⟨_, _, z, _, _, _, _, _, _, _, _, _, _, _, _⟩ := HX0.out W hW
          exact z
        have Hrc0_2 : Hid (∀ W, Below (w.heap.size + 3) (((w.alloc (.cells #[.slice A0 a.es.length n0, .slice B0 a.ks.length m0, .slice D0 ac.length k0] 29)).alloc (.cells #[.slice A1 b.es.length n1, .slice B1 b.ks.length m1, .slice D1 bc.length k1] 29)).alloc (.cells #[.int .i64 d.dc, .int .i64 d.n] 42)) W → SlP W (W).heap.size 3 SpE (.slice D0 ac.length k0) ac) := fun W hW => by
          obtain ⟨_, _, _, z, _, _, _, _, _, _, _, _, _, _, _⟩ := HX0.out W hW
          exact z
        have Hrt1_2 : Hid (∀ W, Below (w.heap.size + 3) (((w.alloc (.cells #[.slice A0 a.es.length n0, .slice B0 a.ks.length m0, .slice D0 ac.length k0] 29)).alloc (.cells #[.slice A1 b.es.length n1, .slice B1 b.ks.length m1, .slice D1 bc.length k1] 29)).alloc (.cells #[.int .i64 d.dc, .int .i64 d.n] 42)) W → b.rd W (W).heap.size (.slice A1 b.es.length n1) (.slice B1 b.ks.length m1)) := fun W hW => by
          obtain ⟨_, _, _, _, z, _, _, _, _, _, _, _, _, _, _⟩ := HX0.out W hW
          exact z
        have Hrc1_2 : Hid (∀ W, Below (w.heap.size + 3) (((w.alloc (.cells #[.slice A0 a.es.length n0, .slice B0 a.ks.length m0, .slice D0 ac.length k0] 29)).alloc (.cells #[.slice A1 b.es.length n1, .slice B1 b.ks.length m1, .slice D1 bc.length k1] 29)).alloc (.cells #[.int .i64 d.dc, .int .i64 d.n] 42)) W → SlP W (W).heap.size 3 SpE (.slice D1 bc.length k1) bc) := fun W hW => by
          obtain ⟨_, _, _, _, _, z, _, _, _, _, _, _, _, _, _⟩ := HX0.out W hW
          exact z
        have Hrl2_2 : Hid (∀ W, Below (w.heap.size + 3) (((w.alloc (.cells #[.slice A0 a.es.length n0, .slice B0 a.ks.length m0, .slice D0 ac.length k0] 29)).alloc (.cells #[.slice A1 b.es.length n1, .slice B1 b.ks.length m1, .slice D1 bc.length k1] 29)).alloc (.cells #[.int .i64 d.dc, .int .i64 d.n] 42)) W → SlP W (W).heap.size 1 StE (.slice A2 p.length n2) p) := fun W hW => by
          obtain ⟨_, _, _, _, _, _, z, _, _, _, _, _, _, _, _⟩ := HX0.out W hW
          exact z
        have HS_2 : Hid (∀ W, Below (w.heap.size + 3) (((w.alloc (.cells #[.slice A0 a.es.length n0, .slice B0 a.ks.length m0, .slice D0 ac.length k0] 29)).alloc (.cells #[.slice A1 b.es.length n1, .slice B1 b.ks.length m1, .slice D1 bc.length k1] 29)).alloc (.cells #[.int .i64 d.dc, .int .i64 d.n] 42)) W → (w.heap.size + 3) ≤ W.heap.size) := fun W hW => by
          have := hW.size
          first | omega | (simp at this; omega)
        have hsb2 := HS_2.out _ hbr5.out
        clear hB rt0 rc0 rt1 rc1 rl2
        go_region_held3 (fun W => (W).cell? ⟨w.heap.size, 0, none⟩ = some (.slice A0 a.es.length n0) ∧ (W).cell? ⟨w.heap.size, 1, none⟩ = some (.slice B0 a.ks.length m0) ∧ (W).cell? ⟨w.heap.size, 2, none⟩ = some (.slice D0 ac.length k0) ∧ (W).cell? ⟨(w.heap.size + 1), 0, none⟩ = some (.slice A1 b.es.length n1) ∧ (W).cell? ⟨(w.heap.size + 1), 1, none⟩ = some (.slice B1 b.ks.length m1) ∧ (W).cell? ⟨(w.heap.size + 1), 2, none⟩ = some (.slice D1 bc.length k1) ∧ (W).cell? ⟨(w.heap.size + 2), 0, none⟩ = some (.int .i64 d.dc) ∧ (W).cell? ⟨(w.heap.size + 2), 1, none⟩ = some (.int .i64 d.n))
          (first | go_keep | exact HK2.out _ hbr7.out | exact HK2.out _ (hbr7.out.trans (by go_grown)) | exact HK2.out _ hbr6.out | exact HK2.out _ (hbr6.out.trans (by go_grown)) | exact HK2.out _ (((hbr7.out.setCell (by first | (simp; done) | (simp; omega)) _).setCell (by first | (simp; done) | (simp; omega)) _).setCell (by first | (simp; done) | (simp; omega)) _) | exact HK2.out _ (hbr5.out.trans (by go_grown)) | fail)
          (first
            | (go_at_call 33; go_loud ((refine (has09_any T C p d _ _ _ _ _ (HRr.out _ (by go_grown)) (HLr.out _ (by go_grown)) (Hrl2_2.out _ (hbr6.out.trans (by go_grown))) (by omega)).mono ?_); rw [HW.out]; rintro e w7 ⟨rfl, hb⟩; have hbr7 : Hid (Below (w.heap.size + 3) (((w.alloc (.cells #[.slice A0 a.es.length n0, .slice B0 a.ks.length m0, .slice D0 ac.length k0] 29)).alloc (.cells #[.slice A1 b.es.length n1, .slice B1 b.ks.length m1, .slice D1 bc.length k1] 29)).alloc (.cells #[.int .i64 d.dc, .int .i64 d.n] 42)) w7) := hid (Below.trans (hbr6.out.trans (by go_grown)) (hb.mono (by first | omega | (simp; done) | (simp; omega)))); have hsr7 := HS_2.out _ hbr7.out; have hch6_7 : Hid (Below w6.heap.size w6 w7) := hid (Below.trans (by go_grown) (hb.mono (by first | omega | (simp; done) | (simp; omega)))); clear hb))
            | (go_at_call 35; go_loud ((refine (l09join_any ac bc a b _ _ _ _ _ _ _ (Hrt0_2.out _ (hbr5.out.trans (by go_grown))) (Hrt1_2.out _ (hbr5.out.trans (by go_grown))) (Hrc0_2.out _ (hbr5.out.trans (by go_grown))) (Hrc1_2.out _ (hbr5.out.trans (by go_grown))) (by omega) (by omega) (by omega) (by omega)).mono ?_); rw [HJT.out, HJC.out]; rintro e w6 ⟨xe6, xk6, xc6, rfl, hrd6, hsl6, hb⟩; have hbr6 : Hid (Below (w.heap.size + 3) (((w.alloc (.cells #[.slice A0 a.es.length n0, .slice B0 a.ks.length m0, .slice D0 ac.length k0] 29)).alloc (.cells #[.slice A1 b.es.length n1, .slice B1 b.ks.length m1, .slice D1 bc.length k1] 29)).alloc (.cells #[.int .i64 d.dc, .int .i64 d.n] 42)) w6) := hid (Below.trans (hbr5.out.trans (by go_grown)) (hb.mono (by first | omega | (simp; done) | (simp; omega)))); have hsr6 := HS_2.out _ hbr6.out; obtain ⟨Ar6, nr6, Br6, mr6, hv1, hv2⟩ := rda_shape hrd6; subst hv1; subst hv2; obtain ⟨Dr6, kr6, hv3⟩ := hsl6.shape; subst hv3; have HR6 := hid hrd6; have HL6 := hid hsl6; clear hrd6 hsl6; have HRr : Hid (∀ W, Below w6.heap.size w6 W → T.rd W W.heap.size (.slice Ar6 T.es.length nr6) (.slice Br6 T.ks.length mr6)) := fun W hW => rda_rd HR6.out (fun b hb => hb.2) hW; have HLr : Hid (∀ W, Below w6.heap.size w6 W → SlP W W.heap.size 3 SpE (.slice Dr6 C.length kr6) C) := fun W hW => HL6.out.slp (fun b hb => hb.2) hW; clear hb)))
        all_goals (
          obtain ⟨hB, hs, rt0, rc0, rt1, rc1, rl2, c00, c01, c02, c10, c11, c12, c30, c31⟩ := HX0.out _ hbr7.out
          go_wp2_with fail
          go_ret
          exact ⟨rfl, hB⟩)
end Go.Proofs.YtkjijbogbelilaaGreat

namespace Go.Proofs.YtkjijbogbelilaaGreat
open Go.ChangeShapes Go.WideShapes Go.ChangeAt Go.RowKit
set_option maxRecDepth 100000

theorem okStrings : Tryz.prog.readableRec 40 = true ∧ 40 < Tryz.prog.types.size := ⟨by kernel_rfl, of_decide_eq_true (by kernel_rfl)⟩
theorem bytesString : Tryz.prog.bytesOf 9 = 16 := by kernel_rfl
theorem str_open {H : Type} {enc : TypeId × Value → H} {w : World} {fuel : Nat} {cs : List Value} {x : DataW H × List MemPlace} (h : DataW.trod enc Tryz.prog w 0 (fun _ => true) true fuel 9 cs = some x) (hw : Wt Tryz.prog 9 x.1) : ∃ s : ByteArray, StE s cs := by
  obtain ⟨s, e, hy, _⟩ := DataW.trod_string Tryz.underlying9 h
  refine ⟨s, e, ?_⟩
  have := hw s.size (by rw [hy]; simp [DataW.weights])
  unfold reachBytes at this; unfold Big; omega
theorem strs_arg {H : Type} {enc : TypeId × Value → H} {W : World} {base : Nat} {v : Value} {d : DataW H} {p : List MemPlace} (hv : Value.okWide Tryz.prog W .any base 40 v) (h : DataW.Trod enc Tryz.prog W 0 (fun _ => true) true 40 v d p) (hw : Wt Tryz.prog 40 d) :
    ∃ l : List ByteArray, SlP W W.heap.size 1 StE v l := by
  obtain ⟨a, len, cap, rfl⟩ := okWide_slice Tryz.underlying40 hv
  obtain ⟨fuel, hf⟩ := h
  obtain ⟨v', l, e, hl⟩ := slc_open (E := StE) Tryz.underlying40 cellsOne.1 (by decide) bytesString (by decide) hf hw fun _ _ _ _ hy hwy => str_open hy hwy
  simp [Value.cells] at e
  subst e
  exact ⟨l, hl⟩
end Go.Proofs.YtkjijbogbelilaaGreat

namespace Go.Proofs.YtkjijbogbelilaaGreat
open Go.ChangeShapes Go.WideShapes Go.ChangeAt Go.RowKit

theorem trodAll_four {H : Type} {enc : TypeId × Value → H} {P : Program} {W : World} {t0 t1 t2 t3 : TypeId} {args : Array Value} {ds : List (DataW H)} {ps : List MemPlace} (h : DataW.TrodAll enc P W 0 (fun _ => true) true [t0, t1, t2, t3] args.toList ds ps) :
    ∃ v0 v1 v2 v3 d0 d1 d2 d3 p0 p1 p2 p3, args = #[v0, v1, v2, v3] ∧ ds = [d0, d1, d2, d3] ∧ ps = p0 ++ p1 ++ p2 ++ p3 ∧ DataW.Trod enc P W 0 (fun _ => true) true t0 v0 d0 p0 ∧ DataW.Trod enc P W 0 (fun _ => true) true t1 v1 d1 p1 ∧ DataW.Trod enc P W 0 (fun _ => true) true t2 v2 d2 p2 ∧ DataW.Trod enc P W 0 (fun _ => true) true t3 v3 d3 p3 := by
  obtain ⟨v0, vs, d0, ds', p0, q, hargs, rfl, rfl, h0, hrest⟩ := trodAll_cons h
  obtain ⟨v1, vs', d1, ds'', p1, q', rfl, rfl, rfl, h1, hrest'⟩ := trodAll_cons hrest
  obtain ⟨v2, vs'', d2, ds''', p2, q'', rfl, rfl, rfl, h2, hrest''⟩ := trodAll_cons hrest'
  obtain ⟨v3, vs''', d3, ds'''', p3, q''', rfl, rfl, rfl, h3, hrest'''⟩ := trodAll_cons hrest''
  obtain ⟨rfl, rfl, rfl⟩ := trodAll_nil hrest'''
  exact ⟨v0, v1, v2, v3, d0, d1, d2, d3, p0, p1, p2, p3, by cases args; simp_all, rfl, by simp, h0, h1, h2, h3⟩
end Go.Proofs.YtkjijbogbelilaaGreat
