/- What the laws need, part 2: The law SetWins answers true. No condition. Four arguments, each read by itself. No condition. -/
import Derived.Test.YtkjijbogbelilaaGreatTd1
namespace Go.Proofs.YtkjijbogbelilaaGreat
open Go.RowKit
set_option maxRecDepth 100000

theorem tKey_mem {s : ByteArray} {e : En} {x : Lf} : x ∈ (Tr.mk [] [(s, tOne e)]).lvs [] ↔ x = ([s], e) := by simp [Tr.lvs, Tr.lvsL]
theorem tKey_ord {s : ByteArray} {e : En} (hs : keyB s = true) : (Tr.mk [] [(s, tOne e)]).Ord := Ord.mk' .nil (List.pairwise_singleton _ _) fun k t h => by
  simp at h
  obtain ⟨rfl, rfl⟩ := h
  exact ⟨keyB_ne hs, rfl, tOne_ord e⟩
theorem tKey_ok {s : ByteArray} {e : En} {c : List Sp} (hs : keyB s = true) (he : e.right = true) (hc : apartB c = true) (hh : hasC c e.dot = true) : CaOk (.mk [] [(s, tOne e)]) c :=
  ⟨tKey_ord hs, fun x hx => by rw [tKey_mem.1 hx]; exact ⟨by simp, by simpa using hs, he⟩, hc, fun x hx => by rw [tKey_mem.1 hx]; exact hh⟩
theorem kid_dots {t : Tr} (ho : t.Ord) {s : ByteArray} {x : Dt} (h : x ∈ (kidT t s).dots) : x ∈ t.dots := by
  obtain ⟨p, e, hx, rfl⟩ := (mem_dots _ _).1 h
  exact (mem_dots t _).2 ⟨s :: p, e, (mem_kidT ho).1 hx, rfl⟩
theorem has_of_st {A : Tr} (hr : A.right 5 = true) (ho : A.Ord) {s : ByteArray} {d : Dt} {e : En} (h : stE A [s] d = some e) : hasE A s = true := by
  obtain ⟨h1, _⟩ := (stE_some ho).1 h
  obtain ⟨es, ks⟩ := A
  obtain ⟨u, hu, hx⟩ := mem_cons'.1 h1
  have he := mem_es.1 hx
  unfold hasE elemsOf
  rw [hr, if_pos rfl, List.any_eq_true]
  refine ⟨s, ?_, by simp⟩
  unfold elL
  refine List.mem_map.2 ⟨(s, u), List.mem_filter.2 ⟨hu, ?_⟩, rfl⟩
  unfold elP
  have := List.length_pos_of_mem he
  simpa using this
theorem kid_right {t : Tr} (h : t.right 5 = true) (s : ByteArray) : (kidT t s).right 5 = true := right_up _ 4 5 (kidT_right (n := 4) h (by omega) s) (by omega)
set_option maxHeartbeats 1000000 in
theorem sw_plain {t : Tr} {s : ByteArray} {d e : Dt} (hm : sckB t s d = true) (hm2 : sckB t s e = true) (hde : d ≠ e) (hl : t.ks.length < 24) (hz : t.sz ≤ 60) : ∃ (X Y : Tr) (S R : List Sp) (T : Tr) (U : List Sp), Hid (addT t s d = X) ∧ Hid (addC t s d = S) ∧ Hid (addE t s d = 0) ∧ Hid (delC t s e = R) ∧ Hid (sckI t s e = 0) ∧ Hid (Y = .mk [] []) ∧
    Hid ((jaR [(t, knC t), (X, S), (Y, R)]).1 = T) ∧ Hid ((jaR [(t, knC t), (X, S), (Y, R)]).2 = U) ∧ Hid (jaE [(t, knC t), (X, S), (Y, R)] = 0) ∧
    Hid ((jaR [(Y, R), (X, S), (t, knC t)]).1 = T) ∧ Hid ((jaR [(Y, R), (X, S), (t, knC t)]).2 = U) ∧ Hid (jaE [(Y, R), (X, S), (t, knC t)] = 0) ∧
    Hid (hasE T s = true) ∧ Hid (kSame T T U U = true) ∧ X.sz ≤ 40 ∧ Y.sz ≤ 40 ∧ T.sz ≤ 200 ∧ T.ks.length ≤ 200 ∧ S.length ≤ 4000 ∧ R.length ≤ 4000 ∧ U.length ≤ 10000 ∧ (knC t).length ≤ 400 ∧ Hid (∀ d ∈ t.dots, 0 ≤ d.n ∧ d.n ≤ 1099511627778) := by
  obtain ⟨hc, hk1⟩ := sck_chk hm
  obtain ⟨hc2, _⟩ := sck_chk hm2
  obtain ⟨g1, g2, g3⟩ := chkT_dots hc
  obtain ⟨_, g4, g5⟩ := chkT_dots hc2
  have hk := known_ok g1
  have hkr := kid_right g1 s
  have hE : addE t s d = 0 := by unfold addE; rw [hm]; simp; omega
  have hT1 : addT t s d = .mk [] [(s, tOne ⟨d.dc, d.n, ByteArray.empty, 0⟩)] := by unfold addT; rw [if_pos hE]; rfl
  have hC1 : addC t s d = seenC (kidT t s) d := by unfold addC; rw [if_pos hE]
  have hC2 : delC t s e = seenC (kidT t s) e := by unfold delC; rw [if_pos hm2]
  have hed : (⟨d.dc, d.n, ByteArray.empty, 0⟩ : En).dot = d := rfl
  have hX : KOk (Tr.mk [] [(s, tOne ⟨d.dc, d.n, ByteArray.empty, 0⟩)], seenC (kidT t s) d) := tKey_ok hk1 (dot_en_right g2) (seen_apart hkr g2) (by rw [hed]; exact (seen_has hkr g2).2 (.inr rfl))
  have hY : KOk (Tr.mk [] [], seenC (kidT t s) e) := nil_ok (seen_apart hkr g4)
  have hK : KOk (t, knC t) := hk
  obtain ⟨a1, a2, a3⟩ := ja_three hK hX hY (List.Perm.refl _)
  have hperm : [(Tr.mk [] [], seenC (kidT t s) e), (Tr.mk [] [(s, tOne ⟨d.dc, d.n, ByteArray.empty, 0⟩)], seenC (kidT t s) d), (t, knC t)].Perm [(t, knC t), (Tr.mk [] [(s, tOne ⟨d.dc, d.n, ByteArray.empty, 0⟩)], seenC (kidT t s) d), (Tr.mk [] [], seenC (kidT t s) e)] := List.reverse_perm [(t, knC t), (Tr.mk [] [(s, tOne ⟨d.dc, d.n, ByteArray.empty, 0⟩)], seenC (kidT t s) d), (Tr.mk [] [], seenC (kidT t s) e)]
  obtain ⟨b1, b2, _⟩ := ja_three hK hX hY hperm
  have hst : stE (jn (jn (t, knC t) (Tr.mk [] [(s, tOne ⟨d.dc, d.n, ByteArray.empty, 0⟩)], seenC (kidT t s) d)) (Tr.mk [] [], seenC (kidT t s) e)).1 [s] d = some ⟨d.dc, d.n, ByteArray.empty, 0⟩ := by
    rw [jn_st (jn_okK hK hX) hY, jn_st hK hX, stE_nil, seen_hasB hkr g4, stE_out hk.ord g3, kn_hasB g1]
    have h1 : stE (Tr.mk [] [(s, tOne ⟨d.dc, d.n, ByteArray.empty, 0⟩)]) [s] d = some ⟨d.dc, d.n, ByteArray.empty, 0⟩ := (stE_some (tKey_ord hk1)).2 ⟨tKey_mem.2 rfl, rfl⟩
    have h2 : d ∉ (kidT t s).dots := fun h => g3 (kid_dots hk.ord h)
    rw [h1]
    simp [jnO, g3, h2, hde]
  have hhas := has_of_st ((right_iff a3.ord).2 a3.leaf) a3.ord hst
  have s1 := jn_sz hK hX
  have s2 := jn_sz (jn_okK hK hX) hY
  have hkz := kidT_sz t s
  have s3 := kn_sz (t := t) (by omega)
  have s4 := seen_sz (t := kidT t s) (d := d) (by omega)
  have s5 := seen_sz (t := kidT t s) (d := e) (by omega)
  have z1 : (Tr.mk [] [(s, tOne ⟨d.dc, d.n, ByteArray.empty, 0⟩)]).sz = 2 := by simp [Tr.sz, Tr.szL]
  have z2 : (Tr.mk [] []).sz = 0 := by simp [Tr.sz, Tr.szL]
  simp only at s1 s2
  have s7 : (jn (jn (t, knC t) (Tr.mk [] [(s, tOne ⟨d.dc, d.n, ByteArray.empty, 0⟩)], seenC (kidT t s) d)) (Tr.mk [] [], seenC (kidT t s) e)).2.length ≤ 10000 := by omega
  have s8 : (jn (jn (t, knC t) (Tr.mk [] [(s, tOne ⟨d.dc, d.n, ByteArray.empty, 0⟩)], seenC (kidT t s) d)) (Tr.mk [] [], seenC (kidT t s) e)).1.sz ≤ 200 := by omega
  clear s1 s2 hst
  generalize (jn (jn (t, knC t) (Tr.mk [] [(s, tOne ⟨d.dc, d.n, ByteArray.empty, 0⟩)], seenC (kidT t s) d)) (Tr.mk [] [], seenC (kidT t s) e)) = J at a2 a3 b2 hhas s7 s8
  have s6 := es_sz J.1
  have hsm : kSame J.1 J.1 J.2 J.2 = true := (kSame_ok a3 a3).2 rfl
  have f1 := congrArg Prod.fst a2
  have f2 := congrArg Prod.snd a2
  have f3 := congrArg Prod.fst b2
  have f4 := congrArg Prod.snd b2
  exact ⟨_, .mk [] [], _, _, J.1, J.2, hT1, hC1, hE, hC2, if_pos hm2, rfl, f1, f2, a1, f3, f4, b1, hhas, hsm, by omega, by omega, s8, by omega, s4, s5, s7, s3, right_nums g1⟩
set_option maxHeartbeats 4000000 in
theorem lawSW_any (t : Tr) (s : ByteArray) (d : Dt) (e : Dt) (w : World) (ve0 vk0 : Value) (h0 : t.rd w w.heap.size ve0 vk0) (h1 : s.size ≤ Big) (h2 : d.Ok) (h3 : e.Ok) :
    Calls Tryz.prog 20 #[.agg #[ve0, vk0], .string s, .agg #[.int .i64 d.dc, .int .i64 d.n], .agg #[.int .i64 e.dc, .int .i64 e.n]] w fun e w' => e = .returned (.bool true) ∧ Below w.heap.size w w' := by
  have HC0 : Hid (∀ w', Below w.heap.size w w' → t.rd w' w'.heap.size ve0 vk0) := fun w' hb => rd_below hb hb.size _ _ _ h0
  obtain ⟨A0, n0, B0, m0, rfl, rfl⟩ := rd_shape h0
  clear h0
  have HX0 : Hid (∀ W, Below (w.heap.size + 3) (((w.alloc (.cells #[.slice A0 t.es.length n0, .slice B0 t.ks.length m0] 25)).alloc (.cells #[.int .i64 d.dc, .int .i64 d.n] 42)).alloc (.cells #[.int .i64 e.dc, .int .i64 e.n] 42)) W → (Below w.heap.size w W ∧ w.heap.size + 3 ≤ (W).heap.size ∧ t.rd W (W).heap.size (.slice A0 t.es.length n0) (.slice B0 t.ks.length m0) ∧ (W).cell? ⟨w.heap.size, 0, none⟩ = some (.slice A0 t.es.length n0) ∧ (W).cell? ⟨w.heap.size, 1, none⟩ = some (.slice B0 t.ks.length m0) ∧ (W).cell? ⟨(w.heap.size + 1), 0, none⟩ = some (.int .i64 d.dc) ∧ (W).cell? ⟨(w.heap.size + 1), 1, none⟩ = some (.int .i64 d.n) ∧ (W).cell? ⟨(w.heap.size + 2), 0, none⟩ = some (.int .i64 e.dc) ∧ (W).cell? ⟨(w.heap.size + 2), 1, none⟩ = some (.int .i64 e.n))) := fun W hW => by
    have g0 : W.heap[w.heap.size]? = some (.cells #[.slice A0 t.es.length n0, .slice B0 t.ks.length m0] 25 (0, 0)) := (hW.block _ (by omega)).trans ((heap_old (by simp <;> omega)).trans ((heap_old (by simp <;> omega)).trans (heap_new rfl)))
    have g1 : W.heap[(w.heap.size + 1)]? = some (.cells #[.int .i64 d.dc, .int .i64 d.n] 42 (0, 0)) := (hW.block _ (by omega)).trans ((heap_old (by simp <;> omega)).trans (heap_new (by simp)))
    have g2 : W.heap[(w.heap.size + 2)]? = some (.cells #[.int .i64 e.dc, .int .i64 e.n] 42 (0, 0)) := (hW.block _ (by omega)).trans (heap_new (by simp))
    have hB : Below w.heap.size w W := ((((Below.refl _ w).alloc (Nat.le_refl _) _).alloc (by simp <;> omega) _).alloc (by simp <;> omega) _).trans (hW.mono (by omega))
    exact ⟨hB, by have := hW.size; simpa using this, HC0.out _ hB, cell_cells (i := 0) g0, cell_cells (i := 1) g0, cell_cells (i := 0) g1, cell_cells (i := 1) g1, cell_cells (i := 0) g2, cell_cells (i := 1) g2⟩
  have hnb1 : w.heap.size + 1 ≠ w.heap.size := by omega
  have hnb2 : w.heap.size + 2 ≠ w.heap.size := by omega
  go_enter Tryz.func20, Tryz.ntmps20
  have gg := guardDot
  have nn := eqlDot d e
  go_wp2_with fail
  obtain ⟨hB, hs, rt0, c00, c01, c20, c21, c30, c31⟩ := HX0.out _ (Below.refl _ _)
  refine (awake11_any _).mono ?_
  rintro e w1 ⟨rfl, hb⟩
  have hbk1 : Hid (Below (w.heap.size + 3) (((w.alloc (.cells #[.slice A0 t.es.length n0, .slice B0 t.ks.length m0] 25)).alloc (.cells #[.int .i64 d.dc, .int .i64 d.n] 42)).alloc (.cells #[.int .i64 e.dc, .int .i64 e.n] 42)) w1) := hid (hb.mono (by first | omega | (simp; done) | (simp; omega)))
  clear hb
  clear hB hs rt0 c00 c01 c20 c21 c30 c31
  obtain ⟨hB, hs, rt0, c00, c01, c20, c21, c30, c31⟩ := HX0.out _ hbk1.out
  go_wp2_with fail
  refine (small11_any t _ _ _ rt0).mono ?_
  rintro e w2 ⟨rfl, hb⟩
  have hbk2 : Hid (Below (w.heap.size + 3) (((w.alloc (.cells #[.slice A0 t.es.length n0, .slice B0 t.ks.length m0] 25)).alloc (.cells #[.int .i64 d.dc, .int .i64 d.n] 42)).alloc (.cells #[.int .i64 e.dc, .int .i64 e.n] 42)) w2) := hid (hbk1.out.trans (hb.mono (by first | omega | (simp; done) | (simp; omega))))
  clear hb
  clear hB hs rt0 c00 c01 c20 c21 c30 c31
  obtain ⟨hB, hs, rt0, c00, c01, c20, c21, c30, c31⟩ := HX0.out _ hbk2.out
  cases hs : smlB t 60
  · clear hs
    go_wp2_with fail
    refine (awake11_any _).mono ?_
    rintro e w3 ⟨rfl, hb⟩
    have hbk3 : Hid (Below (w.heap.size + 3) (((w.alloc (.cells #[.slice A0 t.es.length n0, .slice B0 t.ks.length m0] 25)).alloc (.cells #[.int .i64 d.dc, .int .i64 d.n] 42)).alloc (.cells #[.int .i64 e.dc, .int .i64 e.n] 42)) w3) := hid (hbk2.out.trans (hb.mono (by first | omega | (simp; done) | (simp; omega))))
    clear hb
    clear hB hs rt0 c00 c01 c20 c21 c30 c31
    obtain ⟨hB, hs, rt0, c00, c01, c20, c21, c30, c31⟩ := HX0.out _ hbk3.out
    go_wp2_with fail
    go_ret
    exact ⟨rfl, hB⟩
  have hsz : t.sz ≤ 60 := by have := sml_sz hs; omega
  clear hs
  cases hde : decide (d = e)
  · skip
    go_wp2_with fail
    refine (may_any t s d _ _ _ rt0 (by omega)).mono ?_
    rintro e w3 ⟨rfl, hb⟩
    have hbk3 : Hid (Below (w.heap.size + 3) (((w.alloc (.cells #[.slice A0 t.es.length n0, .slice B0 t.ks.length m0] 25)).alloc (.cells #[.int .i64 d.dc, .int .i64 d.n] 42)).alloc (.cells #[.int .i64 e.dc, .int .i64 e.n] 42)) w3) := hid (hbk2.out.trans (hb.mono (by first | omega | (simp; done) | (simp; omega))))
    clear hb
    clear hB hs rt0 c00 c01 c20 c21 c30 c31
    obtain ⟨hB, hs, rt0, c00, c01, c20, c21, c30, c31⟩ := HX0.out _ hbk3.out
    cases hc : sckB t s d
    · clear hc
      go_wp2_with fail
      refine (awake11_any _).mono ?_
      rintro e w4 ⟨rfl, hb⟩
      have hbk4 : Hid (Below (w.heap.size + 3) (((w.alloc (.cells #[.slice A0 t.es.length n0, .slice B0 t.ks.length m0] 25)).alloc (.cells #[.int .i64 d.dc, .int .i64 d.n] 42)).alloc (.cells #[.int .i64 e.dc, .int .i64 e.n] 42)) w4) := hid (hbk3.out.trans (hb.mono (by first | omega | (simp; done) | (simp; omega))))
      clear hb
      clear hB hs rt0 c00 c01 c20 c21 c30 c31
      obtain ⟨hB, hs, rt0, c00, c01, c20, c21, c30, c31⟩ := HX0.out _ hbk4.out
      go_wp2_with fail
      go_ret
      exact ⟨rfl, hB⟩
    go_wp2_with fail
    refine (may_any t s e _ _ _ rt0 (by omega)).mono ?_
    rintro e w4 ⟨rfl, hb⟩
    have hbk4 : Hid (Below (w.heap.size + 3) (((w.alloc (.cells #[.slice A0 t.es.length n0, .slice B0 t.ks.length m0] 25)).alloc (.cells #[.int .i64 d.dc, .int .i64 d.n] 42)).alloc (.cells #[.int .i64 e.dc, .int .i64 e.n] 42)) w4) := hid (hbk3.out.trans (hb.mono (by first | omega | (simp; done) | (simp; omega))))
    clear hb
    clear hB hs rt0 c00 c01 c20 c21 c30 c31
    obtain ⟨hB, hs, rt0, c00, c01, c20, c21, c30, c31⟩ := HX0.out _ hbk4.out
    cases hc2 : sckB t s e
    · clear hc2
      go_wp2_with fail
      refine (awake11_any _).mono ?_
      rintro e w5 ⟨rfl, hb⟩
      have hbk5 : Hid (Below (w.heap.size + 3) (((w.alloc (.cells #[.slice A0 t.es.length n0, .slice B0 t.ks.length m0] 25)).alloc (.cells #[.int .i64 d.dc, .int .i64 d.n] 42)).alloc (.cells #[.int .i64 e.dc, .int .i64 e.n] 42)) w5) := hid (hbk4.out.trans (hb.mono (by first | omega | (simp; done) | (simp; omega))))
      clear hb
      clear hB hs rt0 c00 c01 c20 c21 c30 c31
      obtain ⟨hB, hs, rt0, c00, c01, c20, c21, c30, c31⟩ := HX0.out _ hbk5.out
      go_wp2_with fail
      go_ret
      exact ⟨rfl, hB⟩
    have hfi : decide ((24 : Int) ≤ (t.ks.length : Int)) = decide (24 ≤ t.ks.length) := by rw [Bool.eq_iff_iff]; simp; omega
    cases fl : decide (24 ≤ t.ks.length)
    · rw [fl] at hfi
      obtain ⟨X, Y, S, R, T, U, HEN, HDI1, HCI1, HDI, HCI, HYN, HA1, HA2, HA3, HB1, HB2, HB3, HHS, HSM, hX1, hY1, hT1, hT2, hS1, hR1, hU1, hK1, HN⟩ := sw_plain hc hc2 (by simpa using hde) (by simpa using fl) hsz
      clear hc hc2 hde
      go_wp2_with fail
      refine (sadd_any t s d _ _ _ rt0 h1 (by omega) h2).mono ?_
      rw [HEN.out, HDI1.out, HCI1.out]
      rintro e w5 ⟨xe5, xk5, xc5, rfl, hrd5, hsl5, hb⟩
      obtain ⟨A5x, n5x, B5x, m5x, rfl, rfl⟩ := rda_shape hrd5
      obtain ⟨D5x, k5x, rfl⟩ := hsl5.shape
      have hbk5 : Hid (Below (w.heap.size + 3) (((w.alloc (.cells #[.slice A0 t.es.length n0, .slice B0 t.ks.length m0] 25)).alloc (.cells #[.int .i64 d.dc, .int .i64 d.n] 42)).alloc (.cells #[.int .i64 e.dc, .int .i64 e.n] 42)) w5) := hid (hbk4.out.trans (hb.mono (by first | omega | (simp; done) | (simp; omega))))
      clear hb
      clear hB hs rt0 c00 c01 c20 c21 c30 c31
      obtain ⟨hB, hs, rt0, c00, c01, c20, c21, c30, c31⟩ := HX0.out _ hbk5.out
      have hlt5108 : w.heap.size < w5.heap.size := by omega
      have hne5108 : w.heap.size ≠ w5.heap.size := by omega
      have hlt5214 : (w.heap.size + 1) < w5.heap.size := by omega
      have hne5214 : (w.heap.size + 1) ≠ w5.heap.size := by omega
      have hlt5742 : (w.heap.size + 2) < w5.heap.size := by omega
      have hne5742 : (w.heap.size + 2) ≠ w5.heap.size := by omega
      have HX1 : Hid (∀ W, Below (w5.heap.size + 1) (w5.alloc (.cells #[.slice A5x X.es.length n5x, .slice B5x X.ks.length m5x, .slice D5x S.length k5x] 29)) W → (w5.heap.size + 1 ≤ (W).heap.size ∧ X.rd W (W).heap.size (.slice A5x X.es.length n5x) (.slice B5x X.ks.length m5x) ∧ SlP W (W).heap.size 3 SpE (.slice D5x S.length k5x) S ∧ (W).cell? ⟨w5.heap.size, 0, none⟩ = some (.slice A5x X.es.length n5x) ∧ (W).cell? ⟨w5.heap.size, 1, none⟩ = some (.slice B5x X.ks.length m5x) ∧ (W).cell? ⟨w5.heap.size, 2, none⟩ = some (.slice D5x S.length k5x) ∧ Below w.heap.size w W ∧ w.heap.size + 3 ≤ (W).heap.size ∧ t.rd W (W).heap.size (.slice A0 t.es.length n0) (.slice B0 t.ks.length m0) ∧ (W).cell? ⟨w.heap.size, 0, none⟩ = some (.slice A0 t.es.length n0) ∧ (W).cell? ⟨w.heap.size, 1, none⟩ = some (.slice B0 t.ks.length m0) ∧ (W).cell? ⟨(w.heap.size + 1), 0, none⟩ = some (.int .i64 d.dc) ∧ (W).cell? ⟨(w.heap.size + 1), 1, none⟩ = some (.int .i64 d.n) ∧ (W).cell? ⟨(w.heap.size + 2), 0, none⟩ = some (.int .i64 e.dc) ∧ (W).cell? ⟨(w.heap.size + 2), 1, none⟩ = some (.int .i64 e.n))) := fun W hW => by
        have g0 := (hW.block w5.heap.size (by omega)).trans (heap_new rfl)
        have hB : Below w5.heap.size w5 W := ((Below.refl _ w5).alloc (Nat.le_refl _) _).trans (hW.mono (by omega))
        exact ⟨by have := hW.size; simpa using this, rda_rd hrd5 (fun b hb => hb.2) hB, hsl5.slp (fun b hb => hb.2) hB, cell_cells (i := 0) g0, cell_cells (i := 1) g0, cell_cells (i := 2) g0, HX0.out W (hbk5.out.trans (hB.mono (by omega)))⟩
      clear hrd5 hsl5
      go_wp2_with fail
      clear hB hs rt0 c00 c01 c20 c21 c30 c31
      obtain ⟨hs_x, rt_x, rc_x, c0_x, c1_x, c2_x, hB, hs, rt0, c00, c01, c20, c21, c30, c31⟩ := HX1.out _ (Below.refl _ _)
      refine (sdel_any t s e _ _ _ rt0 h1 (by omega) h3).mono ?_
      rw [HDI.out, HCI.out, ← HYN.out]
      rintro e w6 ⟨xe6, xk6, xc6, rfl, hrd6, hsl6, hb⟩
      obtain ⟨A6x, n6x, B6x, m6x, rfl, rfl⟩ := rda_shape hrd6
      obtain ⟨D6x, k6x, rfl⟩ := hsl6.shape
      have hbk6 : Hid (Below (w5.heap.size + 1) (w5.alloc (.cells #[.slice A5x X.es.length n5x, .slice B5x X.ks.length m5x, .slice D5x S.length k5x] 29)) w6) := hid (hb.mono (by first | omega | (simp; done) | (simp; omega)))
      clear hb
      clear hs_x rt_x rc_x c0_x c1_x c2_x hB hs rt0 c00 c01 c20 c21 c30 c31
      obtain ⟨hs_x, rt_x, rc_x, c0_x, c1_x, c2_x, hB, hs, rt0, c00, c01, c20, c21, c30, c31⟩ := HX1.out _ hbk6.out
      have hlt6108 : w.heap.size < w6.heap.size := by omega
      have hne6108 : w.heap.size ≠ w6.heap.size := by omega
      have hlt6214 : (w.heap.size + 1) < w6.heap.size := by omega
      have hne6214 : (w.heap.size + 1) ≠ w6.heap.size := by omega
      have hlt6742 : (w.heap.size + 2) < w6.heap.size := by omega
      have hne6742 : (w.heap.size + 2) ≠ w6.heap.size := by omega
      have hlt6181 : w5.heap.size < w6.heap.size := by omega
      have hne6181 : w5.heap.size ≠ w6.heap.size := by omega
      have HX2 : Hid (∀ W, Below (w6.heap.size + 1) (w6.alloc (.cells #[.slice A6x Y.es.length n6x, .slice B6x Y.ks.length m6x, .slice D6x R.length k6x] 29)) W → (w6.heap.size + 1 ≤ (W).heap.size ∧ Y.rd W (W).heap.size (.slice A6x Y.es.length n6x) (.slice B6x Y.ks.length m6x) ∧ SlP W (W).heap.size 3 SpE (.slice D6x R.length k6x) R ∧ (W).cell? ⟨w6.heap.size, 0, none⟩ = some (.slice A6x Y.es.length n6x) ∧ (W).cell? ⟨w6.heap.size, 1, none⟩ = some (.slice B6x Y.ks.length m6x) ∧ (W).cell? ⟨w6.heap.size, 2, none⟩ = some (.slice D6x R.length k6x) ∧ w5.heap.size + 1 ≤ (W).heap.size ∧ X.rd W (W).heap.size (.slice A5x X.es.length n5x) (.slice B5x X.ks.length m5x) ∧ SlP W (W).heap.size 3 SpE (.slice D5x S.length k5x) S ∧ (W).cell? ⟨w5.heap.size, 0, none⟩ = some (.slice A5x X.es.length n5x) ∧ (W).cell? ⟨w5.heap.size, 1, none⟩ = some (.slice B5x X.ks.length m5x) ∧ (W).cell? ⟨w5.heap.size, 2, none⟩ = some (.slice D5x S.length k5x) ∧ Below w.heap.size w W ∧ w.heap.size + 3 ≤ (W).heap.size ∧ t.rd W (W).heap.size (.slice A0 t.es.length n0) (.slice B0 t.ks.length m0) ∧ (W).cell? ⟨w.heap.size, 0, none⟩ = some (.slice A0 t.es.length n0) ∧ (W).cell? ⟨w.heap.size, 1, none⟩ = some (.slice B0 t.ks.length m0) ∧ (W).cell? ⟨(w.heap.size + 1), 0, none⟩ = some (.int .i64 d.dc) ∧ (W).cell? ⟨(w.heap.size + 1), 1, none⟩ = some (.int .i64 d.n) ∧ (W).cell? ⟨(w.heap.size + 2), 0, none⟩ = some (.int .i64 e.dc) ∧ (W).cell? ⟨(w.heap.size + 2), 1, none⟩ = some (.int .i64 e.n))) := fun W hW => by
        have g0 := (hW.block w6.heap.size (by omega)).trans (heap_new rfl)
        have hB : Below w6.heap.size w6 W := ((Below.refl _ w6).alloc (Nat.le_refl _) _).trans (hW.mono (by omega))
        exact ⟨by have := hW.size; simpa using this, rda_rd hrd6 (fun b hb => hb.2) hB, hsl6.slp (fun b hb => hb.2) hB, cell_cells (i := 0) g0, cell_cells (i := 1) g0, cell_cells (i := 2) g0, HX1.out W (hbk6.out.trans (hB.mono (by omega)))⟩
      clear hrd6 hsl6
      clear hfi fl nn gg
      go_upto_region 5 with (fail)
      clear hs_x rt_x rc_x c0_x c1_x c2_x hB hs rt0 c00 c01 c20 c21 c30 c31
      obtain ⟨hs_y, rt_y, rc_y, c0_y, c1_y, c2_y, hs_x, rt_x, rc_x, c0_x, c1_x, c2_x, hB, hs, rt0, c00, c01, c20, c21, c30, c31⟩ := HX2.out _ (Below.refl _ _)
      have HK1 : Hid (∀ W, Below (w6.heap.size + 1) (w6.alloc (.cells #[.slice A6x Y.es.length n6x, .slice B6x Y.ks.length m6x, .slice D6x R.length k6x] 29)) W → ((W).cell? ⟨w6.heap.size, 0, none⟩ = some (.slice A6x Y.es.length n6x) ∧ (W).cell? ⟨w6.heap.size, 1, none⟩ = some (.slice B6x Y.ks.length m6x) ∧ (W).cell? ⟨w6.heap.size, 2, none⟩ = some (.slice D6x R.length k6x) ∧ (W).cell? ⟨w5.heap.size, 0, none⟩ = some (.slice A5x X.es.length n5x) ∧ (W).cell? ⟨w5.heap.size, 1, none⟩ = some (.slice B5x X.ks.length m5x) ∧ (W).cell? ⟨w5.heap.size, 2, none⟩ = some (.slice D5x S.length k5x) ∧ (W).cell? ⟨w.heap.size, 0, none⟩ = some (.slice A0 t.es.length n0) ∧ (W).cell? ⟨w.heap.size, 1, none⟩ = some (.slice B0 t.ks.length m0))) := fun W hW => by
        obtain ⟨_, _, _, z_c0_y, z_c1_y, z_c2_y, _, _, _, z_c0_x, z_c1_x, z_c2_x, _, _, _, z_c00, z_c01, _, _, _, _⟩ := HX2.out W hW
        exact ⟨z_c0_y, z_c1_y, z_c2_y, z_c0_x, z_c1_x, z_c2_x, z_c00, z_c01⟩
      have Hrt_y_1 : Hid (∀ W, Below (w6.heap.size + 1) (w6.alloc (.cells #[.slice A6x Y.es.length n6x, .slice B6x Y.ks.length m6x, .slice D6x R.length k6x] 29)) W → Y.rd W (W).heap.size (.slice A6x Y.es.length n6x) (.slice B6x Y.ks.length m6x)) := fun W hW => by
        obtain ⟨_, z, _, _, _, _, _, _, _, _, _, _, _, _, _, _, _, _, _, _, _⟩ := HX2.out W hW
        exact z
      have Hrc_y_1 : Hid (∀ W, Below (w6.heap.size + 1) (w6.alloc (.cells #[.slice A6x Y.es.length n6x, .slice B6x Y.ks.length m6x, .slice D6x R.length k6x] 29)) W → SlP W (W).heap.size 3 SpE (.slice D6x R.length k6x) R) := fun W hW => by
        obtain ⟨_, _, z, _, _, _, _, _, _, _, _, _, _, _, _, _, _, _, _, _, _⟩ := HX2.out W hW
        exact z
      have Hrt_x_1 : Hid (∀ W, Below (w6.heap.size + 1) (w6.alloc (.cells #[.slice A6x Y.es.length n6x, .slice B6x Y.ks.length m6x, .slice D6x R.length k6x] 29)) W → X.rd W (W).heap.size (.slice A5x X.es.length n5x) (.slice B5x X.ks.length m5x)) := fun W hW => by
        obtain ⟨_, _, _, _, _, _, _, z, _, _, _, _, _, _, _, _, _, _, _, _, _⟩ := HX2.out W hW
        exact z
      have Hrc_x_1 : Hid (∀ W, Below (w6.heap.size + 1) (w6.alloc (.cells #[.slice A6x Y.es.length n6x, .slice B6x Y.ks.length m6x, .slice D6x R.length k6x] 29)) W → SlP W (W).heap.size 3 SpE (.slice D5x S.length k5x) S) := fun W hW => by
        obtain ⟨_, _, _, _, _, _, _, _, z, _, _, _, _, _, _, _, _, _, _, _, _⟩ := HX2.out W hW
        exact z
      have Hrt0_1 : Hid (∀ W, Below (w6.heap.size + 1) (w6.alloc (.cells #[.slice A6x Y.es.length n6x, .slice B6x Y.ks.length m6x, .slice D6x R.length k6x] 29)) W → t.rd W (W).heap.size (.slice A0 t.es.length n0) (.slice B0 t.ks.length m0)) := fun W hW => by
        obtain ⟨_, _, _, _, _, _, _, _, _, _, _, _, _, _, z, _, _, _, _, _, _⟩ := HX2.out W hW
        exact z
      have HS_1 : Hid (∀ W, Below (w6.heap.size + 1) (w6.alloc (.cells #[.slice A6x Y.es.length n6x, .slice B6x Y.ks.length m6x, .slice D6x R.length k6x] 29)) W → (w6.heap.size + 1) ≤ W.heap.size) := fun W hW => by
        have := hW.size
        first | omega | (simp at this; omega)
      have hsb1 := HS_1.out _ (Below.refl _ _)
      clear rt_y rc_y rt_x rc_x hB rt0 c20 c21 c30 c31
      go_cut [13, 14] (fun s13 s14 wx => s14 = .int .i64 0 ∧ Box3 (w6.heap.size + 1) (w6.alloc (.cells #[.slice A6x Y.es.length n6x, .slice B6x Y.ks.length m6x, .slice D6x R.length k6x] 29)) 29 T U s13 wx)
      case first =>
        go_region_held3 (fun W => (W).cell? ⟨w6.heap.size, 0, none⟩ = some (.slice A6x Y.es.length n6x) ∧ (W).cell? ⟨w6.heap.size, 1, none⟩ = some (.slice B6x Y.ks.length m6x) ∧ (W).cell? ⟨w6.heap.size, 2, none⟩ = some (.slice D6x R.length k6x) ∧ (W).cell? ⟨w5.heap.size, 0, none⟩ = some (.slice A5x X.es.length n5x) ∧ (W).cell? ⟨w5.heap.size, 1, none⟩ = some (.slice B5x X.ks.length m5x) ∧ (W).cell? ⟨w5.heap.size, 2, none⟩ = some (.slice D5x S.length k5x) ∧ (W).cell? ⟨w.heap.size, 0, none⟩ = some (.slice A0 t.es.length n0) ∧ (W).cell? ⟨w.heap.size, 1, none⟩ = some (.slice B0 t.ks.length m0))
          (first | go_keep | exact HK1.out _ hbr8.out | exact HK1.out _ (hbr8.out.trans (by go_grown)) | exact HK1.out _ hbr7.out | exact HK1.out _ (hbr7.out.trans (by go_grown)) | exact HK1.out _ (by go_grown) | fail)
          (first
            | (go_at_call 29; go_loud ((refine (joinAll_any [(t, knC t), (X, S), (Y, R)] _ _ (slp3 (by first | exact heap_new rfl | exact heap_new (by simp) | exact (heap_old (by simp)).trans (heap_new rfl) | exact (heap_old (by simp)).trans (heap_new (by simp))) (kn_at (Hrt0_1.out _ (hbr7.out.trans (by go_grown))) (HLK.out _ (by go_grown))) (kn_at (Hrt_x_1.out _ (hbr7.out.trans (by go_grown))) (Hrc_x_1.out _ (hbr7.out.trans (by go_grown)))) (kn_at (Hrt_y_1.out _ (hbr7.out.trans (by go_grown))) (Hrc_y_1.out _ (hbr7.out.trans (by go_grown)))) (by first | (simp; done) | (simp; omega))) (by simp; omega) (by simp; omega)).mono ?_); rw [HA1.out, HA2.out, HA3.out]; rintro e w8 ⟨xe8, xk8, xc8, rfl, hrd8, hsl8, hb⟩; have hbr8 : Hid (Below (w6.heap.size + 1) (w6.alloc (.cells #[.slice A6x Y.es.length n6x, .slice B6x Y.ks.length m6x, .slice D6x R.length k6x] 29)) w8) := hid (Below.trans (hbr7.out.trans (by go_grown)) (hb.mono (by first | omega | (simp; done) | (simp; omega)))); have hsr8 := HS_1.out _ hbr8.out; have hch7_8 : Hid (Below w7.heap.size w7 w8) := hid (Below.trans (by go_grown) (hb.mono (by first | omega | (simp; done) | (simp; omega)))); obtain ⟨Ar8, nr8, Br8, mr8, hv1, hv2⟩ := rda_shape hrd8; subst hv1; subst hv2; obtain ⟨Dr8, kr8, hv3⟩ := hsl8.shape; subst hv3; have HR8 := hid hrd8; have HL8 := hid hsl8; clear hrd8 hsl8; (first | (have HG8 : Hid (w8.heap[w7.heap.size]? = some (.cells #[.slice none 0 0, .slice none 0 0, .slice none 0 0] 29 (0, 0))) := hid (z_newS hb); have k0 : w8.cell? ⟨w7.heap.size, 0, none⟩ = some (.slice none 0 0) := cell_cells (i := 0) HG8.out; have k1 : w8.cell? ⟨w7.heap.size, 1, none⟩ = some (.slice none 0 0) := cell_cells (i := 1) HG8.out; have k2 : w8.cell? ⟨w7.heap.size, 2, none⟩ = some (.slice none 0 0) := cell_cells (i := 2) HG8.out; have z0 := cells_frz (i := 0) HG8.out; have z1 := cells_frz (i := 1) HG8.out; have z2 := cells_frz (i := 2) HG8.out; have hna0 : w.heap.size ≠ w7.heap.size := (by omega); have hnb0 : w7.heap.size ≠ w.heap.size := (by omega); have hna1 : (w.heap.size + 1) ≠ w7.heap.size := (by omega); have hnb1 : w7.heap.size ≠ (w.heap.size + 1) := (by omega); have hna2 : (w.heap.size + 2) ≠ w7.heap.size := (by omega); have hnb2 : w7.heap.size ≠ (w.heap.size + 2) := (by omega); have hna3 : w5.heap.size ≠ w7.heap.size := (by omega); have hnb3 : w7.heap.size ≠ w5.heap.size := (by omega); have hna4 : w6.heap.size ≠ w7.heap.size := (by omega); have hnb4 : w7.heap.size ≠ w6.heap.size := (by omega)) | (have HG8 : Hid (w8.heap[(w7.heap.size + 1)]? = some (.cells #[.slice none 0 0, .slice none 0 0, .slice none 0 0] 29 (0, 0))) := hid (z_new2 hb); have k0 : w8.cell? ⟨(w7.heap.size + 1), 0, none⟩ = some (.slice none 0 0) := cell_cells (i := 0) HG8.out; have k1 : w8.cell? ⟨(w7.heap.size + 1), 1, none⟩ = some (.slice none 0 0) := cell_cells (i := 1) HG8.out; have k2 : w8.cell? ⟨(w7.heap.size + 1), 2, none⟩ = some (.slice none 0 0) := cell_cells (i := 2) HG8.out; have z0 := cells_frz (i := 0) HG8.out; have z1 := cells_frz (i := 1) HG8.out; have z2 := cells_frz (i := 2) HG8.out; have hna0 : w.heap.size ≠ (w7.heap.size + 1) := (by omega); have hnb0 : (w7.heap.size + 1) ≠ w.heap.size := (by omega); have hna1 : (w.heap.size + 1) ≠ (w7.heap.size + 1) := (by omega); have hnb1 : (w7.heap.size + 1) ≠ (w.heap.size + 1) := (by omega); have hna2 : (w.heap.size + 2) ≠ (w7.heap.size + 1) := (by omega); have hnb2 : (w7.heap.size + 1) ≠ (w.heap.size + 2) := (by omega); have hna3 : w5.heap.size ≠ (w7.heap.size + 1) := (by omega); have hnb3 : (w7.heap.size + 1) ≠ w5.heap.size := (by omega); have hna4 : w6.heap.size ≠ (w7.heap.size + 1) := (by omega); have hnb4 : (w7.heap.size + 1) ≠ w6.heap.size := (by omega)) | (have HG8 : Hid (w8.heap[(w6.heap.size + 1)]? = some (.cells #[.slice none 0 0, .slice none 0 0, .slice none 0 0] 29 (0, 0))) := hid ((hb.block _ (by have := lt_of_block HGA.out; first | omega | (simp; omega))).trans ((heap_old (lt_of_block HGA.out)).trans HGA.out)); have k0 : w8.cell? ⟨(w6.heap.size + 1), 0, none⟩ = some (.slice none 0 0) := cell_cells (i := 0) HG8.out; have k1 : w8.cell? ⟨(w6.heap.size + 1), 1, none⟩ = some (.slice none 0 0) := cell_cells (i := 1) HG8.out; have k2 : w8.cell? ⟨(w6.heap.size + 1), 2, none⟩ = some (.slice none 0 0) := cell_cells (i := 2) HG8.out; have z0 := cells_frz (i := 0) HG8.out; have z1 := cells_frz (i := 1) HG8.out; have z2 := cells_frz (i := 2) HG8.out; have hna0 : w.heap.size ≠ (w6.heap.size + 1) := (by omega); have hnb0 : (w6.heap.size + 1) ≠ w.heap.size := (by omega); have hna1 : (w.heap.size + 1) ≠ (w6.heap.size + 1) := (by omega); have hnb1 : (w6.heap.size + 1) ≠ (w.heap.size + 1) := (by omega); have hna2 : (w.heap.size + 2) ≠ (w6.heap.size + 1) := (by omega); have hnb2 : (w6.heap.size + 1) ≠ (w.heap.size + 2) := (by omega); have hna3 : w5.heap.size ≠ (w6.heap.size + 1) := (by omega); have hnb3 : (w6.heap.size + 1) ≠ w5.heap.size := (by omega); have hna4 : w6.heap.size ≠ (w6.heap.size + 1) := (by omega); have hnb4 : (w6.heap.size + 1) ≠ w6.heap.size := (by omega)) | skip); clear hb))
            | (go_at_call 47; go_loud ((refine (r10known_any t _ _ _ (Hrt0_1.out _ (by go_grown)) (by omega) HN.out).mono ?_); rintro e w7 ⟨vc7, rfl, hsl7, hb⟩; have hbr7 : Hid (Below (w6.heap.size + 1) (w6.alloc (.cells #[.slice A6x Y.es.length n6x, .slice B6x Y.ks.length m6x, .slice D6x R.length k6x] 29)) w7) := hid (Below.trans (by go_grown) (hb.mono (by first | omega | (simp; done) | (simp; omega)))); have hsr7 := HS_1.out _ hbr7.out; (first | (have HGA : Hid (w7.heap[(w6.heap.size + 1)]? = some (.cells #[.slice none 0 0, .slice none 0 0, .slice none 0 0] 29 (0, 0))) := hid (z_new2D hb)) | (have HGA : Hid (w7.heap[(w6.heap.size + 1)]? = some (.cells #[.slice none 0 0, .slice none 0 0, .slice none 0 0] 29 (0, 0))) := hid (z_newD hb)) | (have HGA : Hid (w7.heap[(w6.heap.size + 1)]? = some (.cells #[.slice none 0 0, .slice none 0 0, .slice none 0 0] 29 (0, 0))) := hid (z_new2 hb)) | (have HGA : Hid (w7.heap[(w6.heap.size + 1)]? = some (.cells #[.slice none 0 0, .slice none 0 0, .slice none 0 0] 29 (0, 0))) := hid (z_new hb)) | skip); obtain ⟨Dr7, kr7, hv3⟩ := hsl7.shape; subst hv3; have HL7 := hid hsl7; clear hsl7; have HLK : Hid (∀ W, Below w7.heap.size w7 W → SlP W W.heap.size 3 SpE (.slice Dr7 ((ctxOf t.dots)).length kr7) (ctxOf t.dots)) := fun W hW => HL7.out.slp (fun b hb => hb.2) hW; clear hb)))
        all_goals
          go_wp2_with fail
          go_meet
          case rel => exact ⟨rfl, (by first | exact box_new hbr8.out (HS_1.out _ hbr8.out) HR8.out HL8.out | exact box_set HG8.out hbr8.out (by omega) (by first | (simp; done) | (simp; omega) | exact lt_of_block HGA.out | (have := lt_of_block HGA.out; simp; omega)) HR8.out HL8.out)⟩
      case rest =>
        obtain ⟨rfl, g9, xe9, xk9, xc9, rfl, hG9, hrd9, hsl9, hbz⟩ := hcut
        obtain ⟨A9x, n9x, B9x, m9x, rfl, rfl⟩ := rd_shape hrd9
        obtain ⟨D9x, k9x, rfl, _⟩ := id hsl9
        have hlg9 := lt_of_block hG9
        obtain ⟨wq9, hwq9⟩ : ∃ z : World, z = wc := ⟨wc, rfl⟩
        subst hwq9
        have HSZ9 : Hid ((w6.heap.size + 1) ≤ wq9.heap.size) := HS_1.out _ hbz
        have HX3 : Hid (∀ W, Below wq9.heap.size wq9 W → (wq9.heap.size ≤ (W).heap.size ∧ T.rd W (W).heap.size (.slice A9x T.es.length n9x) (.slice B9x T.ks.length m9x) ∧ SlP W (W).heap.size 3 SpE (.slice D9x U.length k9x) U ∧ (W).cell? ⟨g9, 0, none⟩ = some (.slice A9x T.es.length n9x) ∧ (W).cell? ⟨g9, 1, none⟩ = some (.slice B9x T.ks.length m9x) ∧ (W).cell? ⟨g9, 2, none⟩ = some (.slice D9x U.length k9x) ∧ w6.heap.size + 1 ≤ (W).heap.size ∧ Y.rd W (W).heap.size (.slice A6x Y.es.length n6x) (.slice B6x Y.ks.length m6x) ∧ SlP W (W).heap.size 3 SpE (.slice D6x R.length k6x) R ∧ (W).cell? ⟨w6.heap.size, 0, none⟩ = some (.slice A6x Y.es.length n6x) ∧ (W).cell? ⟨w6.heap.size, 1, none⟩ = some (.slice B6x Y.ks.length m6x) ∧ (W).cell? ⟨w6.heap.size, 2, none⟩ = some (.slice D6x R.length k6x) ∧ w5.heap.size + 1 ≤ (W).heap.size ∧ X.rd W (W).heap.size (.slice A5x X.es.length n5x) (.slice B5x X.ks.length m5x) ∧ SlP W (W).heap.size 3 SpE (.slice D5x S.length k5x) S ∧ (W).cell? ⟨w5.heap.size, 0, none⟩ = some (.slice A5x X.es.length n5x) ∧ (W).cell? ⟨w5.heap.size, 1, none⟩ = some (.slice B5x X.ks.length m5x) ∧ (W).cell? ⟨w5.heap.size, 2, none⟩ = some (.slice D5x S.length k5x) ∧ Below w.heap.size w W ∧ w.heap.size + 3 ≤ (W).heap.size ∧ t.rd W (W).heap.size (.slice A0 t.es.length n0) (.slice B0 t.ks.length m0) ∧ (W).cell? ⟨w.heap.size, 0, none⟩ = some (.slice A0 t.es.length n0) ∧ (W).cell? ⟨w.heap.size, 1, none⟩ = some (.slice B0 t.ks.length m0) ∧ (W).cell? ⟨(w.heap.size + 1), 0, none⟩ = some (.int .i64 d.dc) ∧ (W).cell? ⟨(w.heap.size + 1), 1, none⟩ = some (.int .i64 d.n) ∧ (W).cell? ⟨(w.heap.size + 2), 0, none⟩ = some (.int .i64 e.dc) ∧ (W).cell? ⟨(w.heap.size + 2), 1, none⟩ = some (.int .i64 e.n))) := fun W hW => by
          have g0 := (hW.block g9 hlg9).trans hG9
          exact ⟨hW.size, rd_below hW hW.size _ _ _ hrd9, hsl9.imp hW hW.size (fun _ _ _ h => h), cell_cells (i := 0) g0, cell_cells (i := 1) g0, cell_cells (i := 2) g0, HX2.out W (hbz.trans (hW.mono HSZ9.out))⟩
        clear hrd9 hsl9 hG9
        clear hs_y c0_y c1_y c2_y hs_x c0_x c1_x c2_x hs c00 c01
        obtain ⟨hs_a, rt_a, rc_a, c0_a, c1_a, c2_a, hs_y, rt_y, rc_y, c0_y, c1_y, c2_y, hs_x, rt_x, rc_x, c0_x, c1_x, c2_x, hB, hs, rt0, c00, c01, c20, c21, c30, c31⟩ := HX3.out _ (Below.refl _ _)
        go_upto_region 6 with (fail)
        have HK2 : Hid (∀ W, Below wq9.heap.size wq9 W → ((W).cell? ⟨w6.heap.size, 0, none⟩ = some (.slice A6x Y.es.length n6x) ∧ (W).cell? ⟨w6.heap.size, 1, none⟩ = some (.slice B6x Y.ks.length m6x) ∧ (W).cell? ⟨w6.heap.size, 2, none⟩ = some (.slice D6x R.length k6x) ∧ (W).cell? ⟨w5.heap.size, 0, none⟩ = some (.slice A5x X.es.length n5x) ∧ (W).cell? ⟨w5.heap.size, 1, none⟩ = some (.slice B5x X.ks.length m5x) ∧ (W).cell? ⟨w5.heap.size, 2, none⟩ = some (.slice D5x S.length k5x) ∧ (W).cell? ⟨w.heap.size, 0, none⟩ = some (.slice A0 t.es.length n0) ∧ (W).cell? ⟨w.heap.size, 1, none⟩ = some (.slice B0 t.ks.length m0))) := fun W hW => by
          obtain ⟨_, _, _, _, _, _, _, _, _, z_c0_y, z_c1_y, z_c2_y, _, _, _, z_c0_x, z_c1_x, z_c2_x, _, _, _, z_c00, z_c01, _, _, _, _⟩ := HX3.out W hW
          exact ⟨z_c0_y, z_c1_y, z_c2_y, z_c0_x, z_c1_x, z_c2_x, z_c00, z_c01⟩
        have Hrt_a_2 : Hid (∀ W, Below wq9.heap.size wq9 W → T.rd W (W).heap.size (.slice A9x T.es.length n9x) (.slice B9x T.ks.length m9x)) := fun W hW => by
          obtain ⟨_, z, _, _, _, _, _, _, _, _, _, _, _, _, _, _, _, _, _, _, _, _, _, _, _, _, _⟩ := HX3.out W hW
          exact z
        have Hrc_a_2 : Hid (∀ W, Below wq9.heap.size wq9 W → SlP W (W).heap.size 3 SpE (.slice D9x U.length k9x) U) := fun W hW => by
          obtain ⟨_, _, z, _, _, _, _, _, _, _, _, _, _, _, _, _, _, _, _, _, _, _, _, _, _, _, _⟩ := HX3.out W hW
          exact z
        have Hrt_y_2 : Hid (∀ W, Below wq9.heap.size wq9 W → Y.rd W (W).heap.size (.slice A6x Y.es.length n6x) (.slice B6x Y.ks.length m6x)) := fun W hW => by
          obtain ⟨_, _, _, _, _, _, _, z, _, _, _, _, _, _, _, _, _, _, _, _, _, _, _, _, _, _, _⟩ := HX3.out W hW
          exact z
        have Hrc_y_2 : Hid (∀ W, Below wq9.heap.size wq9 W → SlP W (W).heap.size 3 SpE (.slice D6x R.length k6x) R) := fun W hW => by
          obtain ⟨_, _, _, _, _, _, _, _, z, _, _, _, _, _, _, _, _, _, _, _, _, _, _, _, _, _, _⟩ := HX3.out W hW
          exact z
        have Hrt_x_2 : Hid (∀ W, Below wq9.heap.size wq9 W → X.rd W (W).heap.size (.slice A5x X.es.length n5x) (.slice B5x X.ks.length m5x)) := fun W hW => by
          obtain ⟨_, _, _, _, _, _, _, _, _, _, _, _, _, z, _, _, _, _, _, _, _, _, _, _, _, _, _⟩ := HX3.out W hW
          exact z
        have Hrc_x_2 : Hid (∀ W, Below wq9.heap.size wq9 W → SlP W (W).heap.size 3 SpE (.slice D5x S.length k5x) S) := fun W hW => by
          obtain ⟨_, _, _, _, _, _, _, _, _, _, _, _, _, _, z, _, _, _, _, _, _, _, _, _, _, _, _⟩ := HX3.out W hW
          exact z
        have Hrt0_2 : Hid (∀ W, Below wq9.heap.size wq9 W → t.rd W (W).heap.size (.slice A0 t.es.length n0) (.slice B0 t.ks.length m0)) := fun W hW => by
          obtain ⟨_, _, _, _, _, _, _, _, _, _, _, _, _, _, _, _, _, _, _, _, z, _, _, _, _, _, _⟩ := HX3.out W hW
          exact z
        have HS_2 : Hid (∀ W, Below wq9.heap.size wq9 W → wq9.heap.size ≤ W.heap.size) := fun W hW => by
          have := hW.size
          first | omega | (simp at this; omega)
        have hsb2 := HS_2.out _ (Below.refl _ _)
        clear rt_a rc_a c0_a c1_a c2_a rt_y rc_y rt_x rc_x hB rt0 c20 c21 c30 c31
        go_cut [15, 16] (fun s15 s16 wx => s16 = .int .i64 0 ∧ Box3 wq9.heap.size wq9 29 T U s15 wx)
        case first =>
          go_region_held3 (fun W => (W).cell? ⟨w6.heap.size, 0, none⟩ = some (.slice A6x Y.es.length n6x) ∧ (W).cell? ⟨w6.heap.size, 1, none⟩ = some (.slice B6x Y.ks.length m6x) ∧ (W).cell? ⟨w6.heap.size, 2, none⟩ = some (.slice D6x R.length k6x) ∧ (W).cell? ⟨w5.heap.size, 0, none⟩ = some (.slice A5x X.es.length n5x) ∧ (W).cell? ⟨w5.heap.size, 1, none⟩ = some (.slice B5x X.ks.length m5x) ∧ (W).cell? ⟨w5.heap.size, 2, none⟩ = some (.slice D5x S.length k5x) ∧ (W).cell? ⟨w.heap.size, 0, none⟩ = some (.slice A0 t.es.length n0) ∧ (W).cell? ⟨w.heap.size, 1, none⟩ = some (.slice B0 t.ks.length m0))
            (first | go_keep | exact HK2.out _ hbr11.out | exact HK2.out _ (hbr11.out.trans (by go_grown)) | exact HK2.out _ hbr10.out | exact HK2.out _ (hbr10.out.trans (by go_grown)) | exact HK2.out _ (by go_grown) | fail)
            (first
              | (go_at_call 29; go_loud ((refine (joinAll_any [(Y, R), (X, S), (t, knC t)] _ _ (slp3 (by first | exact heap_new rfl | exact heap_new (by simp) | exact (heap_old (by simp)).trans (heap_new rfl) | exact (heap_old (by simp)).trans (heap_new (by simp))) (kn_at (Hrt_y_2.out _ (hbr10.out.trans (by go_grown))) (Hrc_y_2.out _ (hbr10.out.trans (by go_grown)))) (kn_at (Hrt_x_2.out _ (hbr10.out.trans (by go_grown))) (Hrc_x_2.out _ (hbr10.out.trans (by go_grown)))) (kn_at (Hrt0_2.out _ (hbr10.out.trans (by go_grown))) (HLK.out _ (by go_grown))) (by first | (simp; done) | (simp; omega))) (by simp; omega) (by simp; omega)).mono ?_); rw [HB1.out, HB2.out, HB3.out]; rintro e w11 ⟨xe11, xk11, xc11, rfl, hrd11, hsl11, hb⟩; have hbr11 : Hid (Below wq9.heap.size wq9 w11) := hid (Below.trans (hbr10.out.trans (by go_grown)) (hb.mono (by first | omega | (simp; done) | (simp; omega)))); have hsr11 := HS_2.out _ hbr11.out; have hch10_11 : Hid (Below w10.heap.size w10 w11) := hid (Below.trans (by go_grown) (hb.mono (by first | omega | (simp; done) | (simp; omega)))); obtain ⟨Ar11, nr11, Br11, mr11, hv1, hv2⟩ := rda_shape hrd11; subst hv1; subst hv2; obtain ⟨Dr11, kr11, hv3⟩ := hsl11.shape; subst hv3; have HR11 := hid hrd11; have HL11 := hid hsl11; clear hrd11 hsl11; (first | (have HG11 : Hid (w11.heap[w10.heap.size]? = some (.cells #[.slice none 0 0, .slice none 0 0, .slice none 0 0] 29 (0, 0))) := hid (z_newS hb); have k0 : w11.cell? ⟨w10.heap.size, 0, none⟩ = some (.slice none 0 0) := cell_cells (i := 0) HG11.out; have k1 : w11.cell? ⟨w10.heap.size, 1, none⟩ = some (.slice none 0 0) := cell_cells (i := 1) HG11.out; have k2 : w11.cell? ⟨w10.heap.size, 2, none⟩ = some (.slice none 0 0) := cell_cells (i := 2) HG11.out; have z0 := cells_frz (i := 0) HG11.out; have z1 := cells_frz (i := 1) HG11.out; have z2 := cells_frz (i := 2) HG11.out; have hna0 : w.heap.size ≠ w10.heap.size := (by omega); have hnb0 : w10.heap.size ≠ w.heap.size := (by omega); have hna1 : (w.heap.size + 1) ≠ w10.heap.size := (by omega); have hnb1 : w10.heap.size ≠ (w.heap.size + 1) := (by omega); have hna2 : (w.heap.size + 2) ≠ w10.heap.size := (by omega); have hnb2 : w10.heap.size ≠ (w.heap.size + 2) := (by omega); have hna3 : w5.heap.size ≠ w10.heap.size := (by omega); have hnb3 : w10.heap.size ≠ w5.heap.size := (by omega); have hna4 : w6.heap.size ≠ w10.heap.size := (by omega); have hnb4 : w10.heap.size ≠ w6.heap.size := (by omega); have hna5 : g9 ≠ w10.heap.size := (by omega); have hnb5 : w10.heap.size ≠ g9 := (by omega)) | (have HG11 : Hid (w11.heap[(w10.heap.size + 1)]? = some (.cells #[.slice none 0 0, .slice none 0 0, .slice none 0 0] 29 (0, 0))) := hid (z_new2 hb); have k0 : w11.cell? ⟨(w10.heap.size + 1), 0, none⟩ = some (.slice none 0 0) := cell_cells (i := 0) HG11.out; have k1 : w11.cell? ⟨(w10.heap.size + 1), 1, none⟩ = some (.slice none 0 0) := cell_cells (i := 1) HG11.out; have k2 : w11.cell? ⟨(w10.heap.size + 1), 2, none⟩ = some (.slice none 0 0) := cell_cells (i := 2) HG11.out; have z0 := cells_frz (i := 0) HG11.out; have z1 := cells_frz (i := 1) HG11.out; have z2 := cells_frz (i := 2) HG11.out; have hna0 : w.heap.size ≠ (w10.heap.size + 1) := (by omega); have hnb0 : (w10.heap.size + 1) ≠ w.heap.size := (by omega); have hna1 : (w.heap.size + 1) ≠ (w10.heap.size + 1) := (by omega); have hnb1 : (w10.heap.size + 1) ≠ (w.heap.size + 1) := (by omega); have hna2 : (w.heap.size + 2) ≠ (w10.heap.size + 1) := (by omega); have hnb2 : (w10.heap.size + 1) ≠ (w.heap.size + 2) := (by omega); have hna3 : w5.heap.size ≠ (w10.heap.size + 1) := (by omega); have hnb3 : (w10.heap.size + 1) ≠ w5.heap.size := (by omega); have hna4 : w6.heap.size ≠ (w10.heap.size + 1) := (by omega); have hnb4 : (w10.heap.size + 1) ≠ w6.heap.size := (by omega); have hna5 : g9 ≠ (w10.heap.size + 1) := (by omega); have hnb5 : (w10.heap.size + 1) ≠ g9 := (by omega)) | (have HG11 : Hid (w11.heap[wq9.heap.size]? = some (.cells #[.slice none 0 0, .slice none 0 0, .slice none 0 0] 29 (0, 0))) := hid ((hb.block _ (by have := lt_of_block HGA.out; first | omega | (simp; omega))).trans ((heap_old (lt_of_block HGA.out)).trans HGA.out)); have k0 : w11.cell? ⟨wq9.heap.size, 0, none⟩ = some (.slice none 0 0) := cell_cells (i := 0) HG11.out; have k1 : w11.cell? ⟨wq9.heap.size, 1, none⟩ = some (.slice none 0 0) := cell_cells (i := 1) HG11.out; have k2 : w11.cell? ⟨wq9.heap.size, 2, none⟩ = some (.slice none 0 0) := cell_cells (i := 2) HG11.out; have z0 := cells_frz (i := 0) HG11.out; have z1 := cells_frz (i := 1) HG11.out; have z2 := cells_frz (i := 2) HG11.out; have hna0 : w.heap.size ≠ wq9.heap.size := (by omega); have hnb0 : wq9.heap.size ≠ w.heap.size := (by omega); have hna1 : (w.heap.size + 1) ≠ wq9.heap.size := (by omega); have hnb1 : wq9.heap.size ≠ (w.heap.size + 1) := (by omega); have hna2 : (w.heap.size + 2) ≠ wq9.heap.size := (by omega); have hnb2 : wq9.heap.size ≠ (w.heap.size + 2) := (by omega); have hna3 : w5.heap.size ≠ wq9.heap.size := (by omega); have hnb3 : wq9.heap.size ≠ w5.heap.size := (by omega); have hna4 : w6.heap.size ≠ wq9.heap.size := (by omega); have hnb4 : wq9.heap.size ≠ w6.heap.size := (by omega); have hna5 : g9 ≠ wq9.heap.size := (by omega); have hnb5 : wq9.heap.size ≠ g9 := (by omega)) | skip); clear hb))
              | (go_at_call 47; go_loud ((refine (r10known_any t _ _ _ (Hrt0_2.out _ (by go_grown)) (by omega) HN.out).mono ?_); rintro e w10 ⟨vc10, rfl, hsl10, hb⟩; have hbr10 : Hid (Below wq9.heap.size wq9 w10) := hid (Below.trans (by go_grown) (hb.mono (by first | omega | (simp; done) | (simp; omega)))); have hsr10 := HS_2.out _ hbr10.out; (first | (have HGA : Hid (w10.heap[wq9.heap.size]? = some (.cells #[.slice none 0 0, .slice none 0 0, .slice none 0 0] 29 (0, 0))) := hid (z_new2D hb)) | (have HGA : Hid (w10.heap[wq9.heap.size]? = some (.cells #[.slice none 0 0, .slice none 0 0, .slice none 0 0] 29 (0, 0))) := hid (z_newD hb)) | (have HGA : Hid (w10.heap[wq9.heap.size]? = some (.cells #[.slice none 0 0, .slice none 0 0, .slice none 0 0] 29 (0, 0))) := hid (z_new2 hb)) | (have HGA : Hid (w10.heap[wq9.heap.size]? = some (.cells #[.slice none 0 0, .slice none 0 0, .slice none 0 0] 29 (0, 0))) := hid (z_new hb)) | skip); obtain ⟨Dr10, kr10, hv3⟩ := hsl10.shape; subst hv3; have HL10 := hid hsl10; clear hsl10; have HLK : Hid (∀ W, Below w10.heap.size w10 W → SlP W W.heap.size 3 SpE (.slice Dr10 ((ctxOf t.dots)).length kr10) (ctxOf t.dots)) := fun W hW => HL10.out.slp (fun b hb => hb.2) hW; clear hb)))
          all_goals
            go_wp2_with fail
            go_meet
            case rel => exact ⟨rfl, (by first | exact box_new hbr11.out (HS_2.out _ hbr11.out) HR11.out HL11.out | exact box_set HG11.out hbr11.out (by omega) (by first | (simp; done) | (simp; omega) | exact lt_of_block HGA.out | (have := lt_of_block HGA.out; simp; omega)) HR11.out HL11.out)⟩
        case rest =>
          obtain ⟨rfl, g12, xe12, xk12, xc12, rfl, hG12, hrd12, hsl12, hbz⟩ := hcut
          obtain ⟨A12x, n12x, B12x, m12x, rfl, rfl⟩ := rd_shape hrd12
          obtain ⟨D12x, k12x, rfl, _⟩ := id hsl12
          have hlg12 := lt_of_block hG12
          obtain ⟨wq12, hwq12⟩ : ∃ z : World, z = wc := ⟨wc, rfl⟩
          subst hwq12
          have HSZ12 : Hid (wq9.heap.size ≤ wq12.heap.size) := HS_2.out _ hbz
          have HX4 : Hid (∀ W, Below wq12.heap.size wq12 W → (wq12.heap.size ≤ (W).heap.size ∧ T.rd W (W).heap.size (.slice A12x T.es.length n12x) (.slice B12x T.ks.length m12x) ∧ SlP W (W).heap.size 3 SpE (.slice D12x U.length k12x) U ∧ (W).cell? ⟨g12, 0, none⟩ = some (.slice A12x T.es.length n12x) ∧ (W).cell? ⟨g12, 1, none⟩ = some (.slice B12x T.ks.length m12x) ∧ (W).cell? ⟨g12, 2, none⟩ = some (.slice D12x U.length k12x) ∧ wq9.heap.size ≤ (W).heap.size ∧ T.rd W (W).heap.size (.slice A9x T.es.length n9x) (.slice B9x T.ks.length m9x) ∧ SlP W (W).heap.size 3 SpE (.slice D9x U.length k9x) U ∧ (W).cell? ⟨g9, 0, none⟩ = some (.slice A9x T.es.length n9x) ∧ (W).cell? ⟨g9, 1, none⟩ = some (.slice B9x T.ks.length m9x) ∧ (W).cell? ⟨g9, 2, none⟩ = some (.slice D9x U.length k9x) ∧ w6.heap.size + 1 ≤ (W).heap.size ∧ Y.rd W (W).heap.size (.slice A6x Y.es.length n6x) (.slice B6x Y.ks.length m6x) ∧ SlP W (W).heap.size 3 SpE (.slice D6x R.length k6x) R ∧ (W).cell? ⟨w6.heap.size, 0, none⟩ = some (.slice A6x Y.es.length n6x) ∧ (W).cell? ⟨w6.heap.size, 1, none⟩ = some (.slice B6x Y.ks.length m6x) ∧ (W).cell? ⟨w6.heap.size, 2, none⟩ = some (.slice D6x R.length k6x) ∧ w5.heap.size + 1 ≤ (W).heap.size ∧ X.rd W (W).heap.size (.slice A5x X.es.length n5x) (.slice B5x X.ks.length m5x) ∧ SlP W (W).heap.size 3 SpE (.slice D5x S.length k5x) S ∧ (W).cell? ⟨w5.heap.size, 0, none⟩ = some (.slice A5x X.es.length n5x) ∧ (W).cell? ⟨w5.heap.size, 1, none⟩ = some (.slice B5x X.ks.length m5x) ∧ (W).cell? ⟨w5.heap.size, 2, none⟩ = some (.slice D5x S.length k5x) ∧ Below w.heap.size w W ∧ w.heap.size + 3 ≤ (W).heap.size ∧ t.rd W (W).heap.size (.slice A0 t.es.length n0) (.slice B0 t.ks.length m0) ∧ (W).cell? ⟨w.heap.size, 0, none⟩ = some (.slice A0 t.es.length n0) ∧ (W).cell? ⟨w.heap.size, 1, none⟩ = some (.slice B0 t.ks.length m0) ∧ (W).cell? ⟨(w.heap.size + 1), 0, none⟩ = some (.int .i64 d.dc) ∧ (W).cell? ⟨(w.heap.size + 1), 1, none⟩ = some (.int .i64 d.n) ∧ (W).cell? ⟨(w.heap.size + 2), 0, none⟩ = some (.int .i64 e.dc) ∧ (W).cell? ⟨(w.heap.size + 2), 1, none⟩ = some (.int .i64 e.n))) := fun W hW => by
            have g0 := (hW.block g12 hlg12).trans hG12
            exact ⟨hW.size, rd_below hW hW.size _ _ _ hrd12, hsl12.imp hW hW.size (fun _ _ _ h => h), cell_cells (i := 0) g0, cell_cells (i := 1) g0, cell_cells (i := 2) g0, HX3.out W (hbz.trans (hW.mono HSZ12.out))⟩
          clear hrd12 hsl12 hG12
          clear hs_a hs_y c0_y c1_y c2_y hs_x c0_x c1_x c2_x hs c00 c01
          obtain ⟨hs_b, rt_b, rc_b, c0_b, c1_b, c2_b, hs_a, rt_a, rc_a, c0_a, c1_a, c2_a, hs_y, rt_y, rc_y, c0_y, c1_y, c2_y, hs_x, rt_x, rc_x, c0_x, c1_x, c2_x, hB, hs, rt0, c00, c01, c20, c21, c30, c31⟩ := HX4.out _ (Below.refl _ _)
          go_wp2_with fail
          refine (shasE_any T s _ _ _ rt_a (by omega)).mono ?_
          rw [HHS.out]
          rintro e w13 ⟨rfl, hb⟩
          have hbk13 : Hid (Below wq12.heap.size wq12 w13) := hid (hb.mono (by first | omega | (simp; done) | (simp; omega)))
          clear hb
          clear hs_b rt_b rc_b c0_b c1_b c2_b hs_a rt_a rc_a c0_a c1_a c2_a hs_y rt_y rc_y c0_y c1_y c2_y hs_x rt_x rc_x c0_x c1_x c2_x hB hs rt0 c00 c01 c20 c21 c30 c31
          obtain ⟨hs_b, rt_b, rc_b, c0_b, c1_b, c2_b, hs_a, rt_a, rc_a, c0_a, c1_a, c2_a, hs_y, rt_y, rc_y, c0_y, c1_y, c2_y, hs_x, rt_x, rc_x, c0_x, c1_x, c2_x, hB, hs, rt0, c00, c01, c20, c21, c30, c31⟩ := HX4.out _ hbk13.out
          go_wp2_with fail
          refine (csame_any U U T T _ _ _ _ _ _ _ rt_a rt_b rc_a rc_b (by omega) (by omega) (by omega) (by omega)).mono ?_
          rw [HSM.out]
          rintro e w14 ⟨rfl, hb⟩
          have hbk14 : Hid (Below wq12.heap.size wq12 w14) := hid (hbk13.out.trans (hb.mono (by first | omega | (simp; done) | (simp; omega))))
          clear hb
          clear hs_b rt_b rc_b c0_b c1_b c2_b hs_a rt_a rc_a c0_a c1_a c2_a hs_y rt_y rc_y c0_y c1_y c2_y hs_x rt_x rc_x c0_x c1_x c2_x hB hs rt0 c00 c01 c20 c21 c30 c31
          obtain ⟨hs_b, rt_b, rc_b, c0_b, c1_b, c2_b, hs_a, rt_a, rc_a, c0_a, c1_a, c2_a, hs_y, rt_y, rc_y, c0_y, c1_y, c2_y, hs_x, rt_x, rc_x, c0_x, c1_x, c2_x, hB, hs, rt0, c00, c01, c20, c21, c30, c31⟩ := HX4.out _ hbk14.out
          go_wp2_with fail
          go_ret
          exact ⟨rfl, hB⟩
    · rw [fl] at hfi
      clear hc hc2
      go_wp2_with fail
      refine (awake11_any _).mono ?_
      rintro e w5 ⟨rfl, hb⟩
      have hbk5 : Hid (Below (w.heap.size + 3) (((w.alloc (.cells #[.slice A0 t.es.length n0, .slice B0 t.ks.length m0] 25)).alloc (.cells #[.int .i64 d.dc, .int .i64 d.n] 42)).alloc (.cells #[.int .i64 e.dc, .int .i64 e.n] 42)) w5) := hid (hbk4.out.trans (hb.mono (by first | omega | (simp; done) | (simp; omega))))
      clear hb
      clear hB hs rt0 c00 c01 c20 c21 c30 c31
      obtain ⟨hB, hs, rt0, c00, c01, c20, c21, c30, c31⟩ := HX0.out _ hbk5.out
      go_wp2_with fail
      go_ret
      exact ⟨rfl, hB⟩
  · skip
    go_wp2_with fail
    refine (awake11_any _).mono ?_
    rintro e w3 ⟨rfl, hb⟩
    have hbk3 : Hid (Below (w.heap.size + 3) (((w.alloc (.cells #[.slice A0 t.es.length n0, .slice B0 t.ks.length m0] 25)).alloc (.cells #[.int .i64 d.dc, .int .i64 d.n] 42)).alloc (.cells #[.int .i64 e.dc, .int .i64 e.n] 42)) w3) := hid (hbk2.out.trans (hb.mono (by first | omega | (simp; done) | (simp; omega))))
    clear hb
    clear hB hs rt0 c00 c01 c20 c21 c30 c31
    obtain ⟨hB, hs, rt0, c00, c01, c20, c21, c30, c31⟩ := HX0.out _ hbk3.out
    go_wp2_with fail
    go_ret
    exact ⟨rfl, hB⟩
end Go.Proofs.YtkjijbogbelilaaGreat

namespace Go.Proofs.YtkjijbogbelilaaGreat
open Go.ChangeShapes Go.WideShapes Go.ChangeAt Go.RowKit

theorem trodAll_four {H : Type} {enc : TypeId × Value → H} {P : Program} {W : World} {t0 t1 t2 t3 : TypeId} {args : Array Value} {ds : List (DataW H)} {ps : List MemPlace} (h : DataW.TrodAll enc P W 0 (fun _ => true) true [t0, t1, t2, t3] args.toList ds ps) :
    ∃ v0 v1 v2 v3 d0 d1 d2 d3 p0 p1 p2 p3, args = #[v0, v1, v2, v3] ∧ ds = [d0, d1, d2, d3] ∧ ps = p0 ++ p1 ++ p2 ++ p3 ∧ DataW.Trod enc P W 0 (fun _ => true) true t0 v0 d0 p0 ∧ DataW.Trod enc P W 0 (fun _ => true) true t1 v1 d1 p1 ∧ DataW.Trod enc P W 0 (fun _ => true) true t2 v2 d2 p2 ∧ DataW.Trod enc P W 0 (fun _ => true) true t3 v3 d3 p3 := by
  obtain ⟨v0, vs, d0, ds', p0, q, hargs, rfl, rfl, h0, hrest⟩ := trodAll_cons h
  obtain ⟨v1, vs', d1, ds'', p1, q', rfl, rfl, rfl, h1, hrest'⟩ := trodAll_cons hrest
  obtain ⟨v2, vs'', d2, ds''', p2, q'', rfl, rfl, rfl, h2, hrest''⟩ := trodAll_cons hrest'
  obtain ⟨v3, vs''', d3, ds'''', p3, q''', rfl, rfl, rfl, h3, hrest'''⟩ := trodAll_cons hrest''
  obtain ⟨rfl, rfl, rfl⟩ := trodAll_nil hrest'''
  exact ⟨v0, v1, v2, v3, d0, d1, d2, d3, p0, p1, p2, p3, by cases args; simp_all, rfl, by simp, h0, h1, h2, h3⟩
end Go.Proofs.YtkjijbogbelilaaGreat
