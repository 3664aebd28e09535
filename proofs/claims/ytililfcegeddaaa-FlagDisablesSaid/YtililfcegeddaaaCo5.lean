/- The laws FlagEnables, FlagDisables answer true. No condition. -/
import Derived.Test.YtililfcegeddaaaCo4
namespace Go.Proofs.Ytililfcegeddaaa
open Go.RowKit
set_option maxRecDepth 100000

theorem spsOk_ctxOf {l : List Dt} (h : ∀ d ∈ l, d.right = true) : SpsOk (ctxOf l) := fun s hs => by
  have ha := apart_ctxOf h
  have hd := wholeK_dc (fun i => ofL (numsL l i)) 4 s hs
  unfold ctxOf ctxOfK at hs
  obtain ⟨i, _, hs⟩ := List.mem_flatMap.1 hs
  obtain ⟨r, hr, rfl⟩ := List.mem_map.1 hs
  have := runs_ok _ none (ofL_right (nums_ok h i)).1 r hr
  unfold runOk at this
  exact ⟨by show 0 ≤ r.1; omega, by show r.1 ≤ _; omega, by show 0 ≤ r.2; omega, by show r.2 ≤ _; omega⟩
theorem seen_eq {t : Tr} {d : Dt} (h : d.right = true) : seenC t d = ctxBy (ctxOf t.dots) [⟨d.dc, d.n, d.n⟩] 0 := by
  unfold seenC; rw [ctxOf_one h]

set_option maxHeartbeats 4000000 in
theorem lawFE_any (t : Tr) (d : Dt) (w : World) (ve vk : Value) (h : t.rd w w.heap.size ve vk) (hd : d.Ok) :
    Calls Try.prog 6 #[.agg #[ve, vk], .agg #[.int .i64 d.dc, .int .i64 d.n]] w fun e w' => e = .returned (.bool true) ∧ Below w.heap.size w w' := by
  have HC : Hid (∀ w', Below w.heap.size w w' → t.rd w' w'.heap.size ve vk) := fun w' hb => rd_below hb hb.size _ _ _ h
  have hfit := fit_rd _ _ _ h
  have hel : t.es.length ≤ 140737488355328 := by obtain ⟨es, ks⟩ := t; exact hfit.1
  obtain ⟨A3, n3, A4, n4, rfl, rfl⟩ := rd_shape h
  have HB : Hid (∀ w', Below (w.heap.size + 2) ((w.alloc (.cells #[.slice A3 t.es.length n3, .slice A4 t.ks.length n4] 25)).alloc (.cells #[.int .i64 d.dc, .int .i64 d.n] 27)) w' → Below w.heap.size w w' ∧ w.heap.size + 2 ≤ w'.heap.size ∧ w'.cell? ⟨w.heap.size, 0, none⟩ = some (.slice A3 t.es.length n3) ∧ w'.cell? ⟨w.heap.size, 1, none⟩ = some (.slice A4 t.ks.length n4) ∧ w'.cell? ⟨w.heap.size + 1, 0, none⟩ = some (.int .i64 d.dc) ∧ w'.cell? ⟨w.heap.size + 1, 1, none⟩ = some (.int .i64 d.n)) := fun w' hb => by
    refine ⟨(((Below.refl _ w).alloc (Nat.le_refl _) _).alloc (by simp) _).trans (hb.mono (by omega)), by have := hb.size; simpa using this, ?_, ?_, ?_, ?_⟩
    · rw [hb.cell (p := ⟨w.heap.size, 0, none⟩) (by simp), World.cell?_alloc_lt _ _ _ (by simp)]; simp
    · rw [hb.cell (p := ⟨w.heap.size, 1, none⟩) (by simp), World.cell?_alloc_lt _ _ _ (by simp)]; simp
    · rw [hb.cell (p := ⟨w.heap.size + 1, 0, none⟩) (by simp)]; simp
    · rw [hb.cell (p := ⟨w.heap.size + 1, 1, none⟩) (by simp)]; simp
  clear h hfit
  go_enter Try.func6, Try.ntmps6
  go_wp2_with fail
  refine (awake10_any _).mono ?_
  rintro e w1 ⟨rfl, hb1⟩
  have hb1' := hid (hb1.mono (show w.heap.size + 2 ≤ _ by simp))
  clear hb1
  obtain ⟨_, _, c0, c1, d0, d1⟩ := HB.out _ hb1'.out
  go_wp2_with fail
  refine (small10_any t w1 _ _ (HC.out _ (HB.out _ hb1'.out).1)).mono ?_
  rintro e w2 ⟨rfl, hb2⟩
  have hb2' := hid (hb1'.out.trans (hb2.mono (HB.out _ hb1'.out).2.1))
  clear hb2 c0 c1 d0 d1
  obtain ⟨hB2, hs2, c0, c1, d0, d1⟩ := HB.out _ hb2'.out
  cases hs : smlB t 40
  · clear hs
    go_wp2_with fail
    refine (awake10_any _).mono ?_
    rintro e w3 ⟨rfl, hb3⟩
    have hb3' := hb2'.out.trans (hb3.mono hs2)
    go_wp2_with fail
    go_ret
    exact ⟨rfl, (HB.out _ hb3').1⟩
  have hsz : t.sz ≤ 90000 := by have := sml_sz hs; omega
  have hsz4 : t.sz ≤ 4000 := by have := sml_sz hs; omega
  clear hs
  go_wp2_with fail
  refine (fenable_any t d _ _ w2 (HC.out _ hB2) hsz4 hd).mono ?_
  rintro e w3 ⟨ve3, vk3, vc3, rfl, hrd, hsc, hb3⟩
  have hb3' := hid (hb2'.out.trans (hb3.mono hs2))
  clear hb3 c0 c1 d0 d1
  obtain ⟨hB3, hs3, c0, c1, d0, d1⟩ := HB.out _ hb3'.out
  have HC1 : Hid (disC t d = if chkT t d then seenC t d else []) := rfl
  have HE1 : Hid (chkI t d = if chkT t d then 0 else 1) := rfl
  have HT1 : Hid (enT t d = if chkT t d then .mk [⟨d.dc, d.n, ByteArray.empty, 0⟩] [] else .mk [] []) := rfl
  generalize enT t d = T at *
  generalize disC t d = C at *
  generalize chkI t d = k at *
  obtain ⟨Ae, ne, Ak, nk, rfl, rfl⟩ := rda_shape hrd
  obtain ⟨Ac, nc, rfl⟩ := hsc.shape
  have HT : Hid (∀ w', Below w3.heap.size w3 w' → T.rd w' w'.heap.size (.slice Ae T.es.length ne) (.slice Ak T.ks.length nk)) := fun w' hb => rda_rd hrd (fun b hb => hb.2) hb
  have HCt : Hid (∀ w', Below w3.heap.size w3 w' → SlP w' w'.heap.size 3 SpE (.slice Ac C.length nc) C) := fun w' hb => hsc.slp (fun b hb => hb.2) hb
  have HX : Hid (∀ w', Below (w3.heap.size + 1) (w3.alloc (.cells #[.slice Ae T.es.length ne, .slice Ak T.ks.length nk, .slice Ac C.length nc] 33)) w' → Below w.heap.size w w' ∧ Below w3.heap.size w3 w' ∧ w3.heap.size + 1 ≤ w'.heap.size ∧ (w'.cell? ⟨w.heap.size + 1, 0, none⟩ = some (.int .i64 d.dc) ∧ w'.cell? ⟨w.heap.size + 1, 1, none⟩ = some (.int .i64 d.n) ∧ w'.cell? ⟨w3.heap.size, 0, none⟩ = some (.slice Ae T.es.length ne) ∧ w'.cell? ⟨w3.heap.size, 1, none⟩ = some (.slice Ak T.ks.length nk) ∧ w'.cell? ⟨w3.heap.size, 2, none⟩ = some (.slice Ac C.length nc) ∧
      w'.cell? ⟨w.heap.size, 0, none⟩ = some (.slice A3 t.es.length n3) ∧ w'.cell? ⟨w.heap.size, 1, none⟩ = some (.slice A4 t.ks.length n4))) := fun w' hb => by
    have hB : Below w3.heap.size w3 w' := ((Below.refl _ w3).alloc (Nat.le_refl _) _).trans (hb.mono (by omega))
    refine ⟨hB3.trans (hB.mono (by omega)), hB, by have := hb.size; simpa using this, ⟨?_, ?_, ?_, ?_, ?_, ?_, ?_⟩⟩
    · rw [hB.cell (p := ⟨w.heap.size + 1, 0, none⟩) (by show w.heap.size + 1 < _; omega)]; exact d0
    · rw [hB.cell (p := ⟨w.heap.size + 1, 1, none⟩) (by show w.heap.size + 1 < _; omega)]; exact d1
    · rw [hb.cell (p := ⟨w3.heap.size, 0, none⟩) (by simp), World.cell?_alloc_new]; rfl
    · rw [hb.cell (p := ⟨w3.heap.size, 1, none⟩) (by simp), World.cell?_alloc_new]; rfl
    · rw [hb.cell (p := ⟨w3.heap.size, 2, none⟩) (by simp), World.cell?_alloc_new]; rfl
    · rw [hB.cell (p := ⟨w.heap.size, 0, none⟩) (by show w.heap.size < _; omega)]; exact c0
    · rw [hB.cell (p := ⟨w.heap.size, 1, none⟩) (by show w.heap.size < _; omega)]; exact c1
  have hlt3 : w.heap.size + 1 < w3.heap.size := by omega
  have hlt4 : w.heap.size < w3.heap.size := by omega
  have hne3 : w.heap.size + 1 ≠ w3.heap.size := by omega
  have hne4 : w.heap.size ≠ w3.heap.size := by omega
  clear hrd hsc
  go_wp2_with fail
  refine (r10check_any t d _ _ _ (HC.out _ (HX.out _ (Below.refl _ _)).1) hsz).mono ?_
  rintro e w4 ⟨rfl, hb4'⟩
  have hbx := hid ((Below.refl (w3.heap.size + 1) (w3.alloc (.cells #[.slice Ae T.es.length ne, .slice Ak T.ks.length nk, .slice Ac C.length nc] 33))).trans (hb4'.mono (by simp)))
  clear hb4' c0 c1 d0 d1
  obtain ⟨hB4, hb4', hs4, d0, d1, x0, x1, x2, c0, c1⟩ := HX.out _ hbx.out
  have hb4 := hid hb4'
  clear hb4'
  cases hc : chkT t d
  · have hk : k = 1 := by rw [HE1.out, hc]; rfl
    subst hk
    have HSM : Hid ((trEq T (.mk [] []) && decide (C = [])) = true) := by unfold Hid; rw [HT1.out, HC1.out, hc]; simp [trEq]
    clear hc
    go_wp2_with fail
    refine (r09same_any T (.mk [] []) C [] _ _ _ _ _ _ w4 (HT.out _ hb4.out) rd_empty (HCt.out _ hb4.out) SlP.nil).mono ?_
    rw [HSM.out]
    rintro e w5 ⟨rfl, hb5⟩
    go_wp2_with fail
    go_ret
    exact ⟨rfl, hB4.trans (hb5.mono (by omega))⟩
  · have hk : k = 0 := by rw [HE1.out, hc]; rfl
    subst hk
    have hdr := chkT_right hc
    have htr := chkT_tree hc
    have hbd := right_bd hdr
    have HSM : Hid ((trEq T (buildL [([], ⟨d.dc, d.n, ByteArray.empty, 0⟩)]) && decide (C = ctxBy (ctxOf t.dots) [⟨d.dc, d.n, d.n⟩] 0)) = true) := by
      unfold Hid; rw [HT1.out, HC1.out, hc, build_one_leaf, if_pos rfl, if_pos rfl, seen_eq hdr]; simp [trEq]
    have HRN : Hid (∀ d ∈ t.dots, 0 ≤ d.n ∧ d.n ≤ 1099511627778) := right_nums htr
    have hcl : (ctxOf t.dots).length ≤ 50000 := by have := ctxOf_len t.dots; have := dots_len t; omega
    have HBL : Hid ((ctxOf t.dots).length ≤ Big) := by unfold Hid Big; omega
    have HSD : Hid (SpsOk (ctxOf t.dots)) := spsOk_ctxOf (right_dots t 5 htr)
    have HSP : Hid (SpsOk [⟨d.dc, d.n, d.n⟩]) := fun s hs => by simp at hs; subst hs; simp; omega
    have HEO : Hid (En.Ok ⟨d.dc, d.n, ByteArray.empty, 0⟩) := En.Ok.mk' hd ⟨by decide, by decide⟩
    have HY : Hid (∀ w', Below w4.heap.size w4 w' → w'.cell? ⟨w.heap.size + 1, 0, none⟩ = some (.int .i64 d.dc) ∧ w'.cell? ⟨w.heap.size + 1, 1, none⟩ = some (.int .i64 d.n) ∧ w'.cell? ⟨w3.heap.size, 0, none⟩ = some (.slice Ae T.es.length ne) ∧ w'.cell? ⟨w3.heap.size, 1, none⟩ = some (.slice Ak T.ks.length nk) ∧ w'.cell? ⟨w3.heap.size, 2, none⟩ = some (.slice Ac C.length nc) ∧ w'.cell? ⟨w.heap.size, 0, none⟩ = some (.slice A3 t.es.length n3) ∧ w'.cell? ⟨w.heap.size, 1, none⟩ = some (.slice A4 t.ks.length n4)) := fun w' hb => (HX.out _ (hbx.out.trans (hb.mono hs4))).2.2.2
    clear hc hdr hbd htr
    go_upto_region 6 with (fail)
    go_region_held3 (fun w' => w'.cell? ⟨w.heap.size + 1, 0, none⟩ = some (.int .i64 d.dc) ∧ w'.cell? ⟨w.heap.size + 1, 1, none⟩ = some (.int .i64 d.n) ∧ w'.cell? ⟨w3.heap.size, 0, none⟩ = some (.slice Ae T.es.length ne) ∧ w'.cell? ⟨w3.heap.size, 1, none⟩ = some (.slice Ak T.ks.length nk) ∧ w'.cell? ⟨w3.heap.size, 2, none⟩ = some (.slice Ac C.length nc) ∧ w'.cell? ⟨w.heap.size, 0, none⟩ = some (.slice A3 t.es.length n3) ∧ w'.cell? ⟨w.heap.size, 1, none⟩ = some (.slice A4 t.ks.length n4))
      (first | go_keep | exact HY.out _ hb7.out | exact HY.out _ hb6.out | exact HY.out _ hb5.out)
      (first | (go_at_call 23; go_loud ((refine (r08dots_any t _ _ _ (HC.out _ hB4.drew) hsz HRN.out).mono ?_); rintro e w5 ⟨v5, rfl, ho5, hb⟩; have hb5 := hid (((Below.refl w4.heap.size w4).drew).trans hb); have hsl5 := hid (ho5.sl HBL.out); obtain ⟨A9, c9, hv9⟩ := ho5.shape; subst hv9; clear ho5))
             | (go_at_call 15; go_loud ((refine (r10put_any [] ⟨d.dc, d.n, ByteArray.empty, 0⟩ (ctxOf t.dots) _ _ w5 HEO.out SlP.nil hsl5.out hcl HSD.out HSP.out).mono ?_); rintro e w6 ⟨ve6, vk6, vc6, rfl, hrd5, hsc5, hb⟩; obtain ⟨A5, n5, A6, n6, hv5, hv6⟩ := rda_shape hrd5; subst hv5; subst hv6; obtain ⟨A7, n7, hv7⟩ := hsc5.shape; subst hv7; have hrd6 := hid (rda_rd hrd5 (fun b hb => hb.2) (Below.refl _ _)); have hsc6 := hid (hsc5.slp (fun b hb => hb.2) (Below.refl _ _)); clear hrd5 hsc5; have hb6 := hid (hb5.out.trans (hb.mono hb5.out.size))))
             | (go_at_call 14; go_loud ((refine (r09same_any T _ C _ _ _ _ _ _ _ w6 (HT.out _ (hb4.out.trans (hb6.out.mono (by omega)))) hrd6.out (HCt.out _ (hb4.out.trans (hb6.out.mono (by omega)))) hsc6.out).mono ?_); rw [HSM.out]; rintro e w7 ⟨rfl, hb⟩; have hb7 := hid (hb6.out.trans (hb.mono hb6.out.size)))))
    go_wp2_with fail
    go_ret
    exact ⟨rfl, hB4.trans (hb7.out.mono (by omega))⟩

set_option maxHeartbeats 4000000 in
theorem lawFD_any (t : Tr) (d : Dt) (w : World) (ve vk : Value) (h : t.rd w w.heap.size ve vk) (hd : d.Ok) :
    Calls Try.prog 8 #[.agg #[ve, vk], .agg #[.int .i64 d.dc, .int .i64 d.n]] w fun e w' => e = .returned (.bool true) ∧ Below w.heap.size w w' := by
  have HC : Hid (∀ w', Below w.heap.size w w' → t.rd w' w'.heap.size ve vk) := fun w' hb => rd_below hb hb.size _ _ _ h
  have hfit := fit_rd _ _ _ h
  have hel : t.es.length ≤ 140737488355328 := by obtain ⟨es, ks⟩ := t; exact hfit.1
  obtain ⟨A3, n3, A4, n4, rfl, rfl⟩ := rd_shape h
  have HB : Hid (∀ w', Below (w.heap.size + 2) ((w.alloc (.cells #[.slice A3 t.es.length n3, .slice A4 t.ks.length n4] 25)).alloc (.cells #[.int .i64 d.dc, .int .i64 d.n] 27)) w' → Below w.heap.size w w' ∧ w.heap.size + 2 ≤ w'.heap.size ∧ w'.cell? ⟨w.heap.size, 0, none⟩ = some (.slice A3 t.es.length n3) ∧ w'.cell? ⟨w.heap.size, 1, none⟩ = some (.slice A4 t.ks.length n4) ∧ w'.cell? ⟨w.heap.size + 1, 0, none⟩ = some (.int .i64 d.dc) ∧ w'.cell? ⟨w.heap.size + 1, 1, none⟩ = some (.int .i64 d.n)) := fun w' hb => by
    refine ⟨(((Below.refl _ w).alloc (Nat.le_refl _) _).alloc (by simp) _).trans (hb.mono (by omega)), by have := hb.size; simpa using this, ?_, ?_, ?_, ?_⟩
    · rw [hb.cell (p := ⟨w.heap.size, 0, none⟩) (by simp), World.cell?_alloc_lt _ _ _ (by simp)]; simp
    · rw [hb.cell (p := ⟨w.heap.size, 1, none⟩) (by simp), World.cell?_alloc_lt _ _ _ (by simp)]; simp
    · rw [hb.cell (p := ⟨w.heap.size + 1, 0, none⟩) (by simp)]; simp
    · rw [hb.cell (p := ⟨w.heap.size + 1, 1, none⟩) (by simp)]; simp
  clear h hfit
  go_enter Try.func8, Try.ntmps8
  go_wp2_with fail
  refine (awake10_any _).mono ?_
  rintro e w1 ⟨rfl, hb1⟩
  have hb1' := hid (hb1.mono (show w.heap.size + 2 ≤ _ by simp))
  clear hb1
  obtain ⟨_, _, c0, c1, d0, d1⟩ := HB.out _ hb1'.out
  go_wp2_with fail
  refine (small10_any t w1 _ _ (HC.out _ (HB.out _ hb1'.out).1)).mono ?_
  rintro e w2 ⟨rfl, hb2⟩
  have hb2' := hid (hb1'.out.trans (hb2.mono (HB.out _ hb1'.out).2.1))
  clear hb2 c0 c1 d0 d1
  obtain ⟨hB2, hs2, c0, c1, d0, d1⟩ := HB.out _ hb2'.out
  cases hs : smlB t 40
  · clear hs
    go_wp2_with fail
    refine (awake10_any _).mono ?_
    rintro e w3 ⟨rfl, hb3⟩
    have hb3' := hb2'.out.trans (hb3.mono hs2)
    go_wp2_with fail
    go_ret
    exact ⟨rfl, (HB.out _ hb3').1⟩
  have hsz : t.sz ≤ 90000 := by have := sml_sz hs; omega
  have hsz4 : t.sz ≤ 4000 := by have := sml_sz hs; omega
  clear hs
  go_wp2_with fail
  refine (fdisable_any t d _ _ w2 (HC.out _ hB2) hsz4 hd).mono ?_
  rintro e w3 ⟨ve3, vk3, vc3, rfl, hrd, hsc, hb3⟩
  have hb3' := hid (hb2'.out.trans (hb3.mono hs2))
  clear hb3 c0 c1 d0 d1
  obtain ⟨hB3, hs3, c0, c1, d0, d1⟩ := HB.out _ hb3'.out
  have HC1 : Hid (disC t d = if chkT t d then seenC t d else []) := rfl
  have HE1 : Hid (chkI t d = if chkT t d then 0 else 1) := rfl
  obtain ⟨T, hT⟩ : ∃ T, T = Tr.mk [] [] := ⟨_, rfl⟩
  rw [← hT] at hrd
  have HT1 := hid hT
  clear hT
  generalize disC t d = C at *
  generalize chkI t d = k at *
  obtain ⟨Ae, ne, Ak, nk, rfl, rfl⟩ := rda_shape hrd
  obtain ⟨Ac, nc, rfl⟩ := hsc.shape
  have HT : Hid (∀ w', Below w3.heap.size w3 w' → T.rd w' w'.heap.size (.slice Ae T.es.length ne) (.slice Ak T.ks.length nk)) := fun w' hb => rda_rd hrd (fun b hb => hb.2) hb
  have HCt : Hid (∀ w', Below w3.heap.size w3 w' → SlP w' w'.heap.size 3 SpE (.slice Ac C.length nc) C) := fun w' hb => hsc.slp (fun b hb => hb.2) hb
  have HX : Hid (∀ w', Below (w3.heap.size + 1) (w3.alloc (.cells #[.slice Ae T.es.length ne, .slice Ak T.ks.length nk, .slice Ac C.length nc] 33)) w' → Below w.heap.size w w' ∧ Below w3.heap.size w3 w' ∧ w3.heap.size + 1 ≤ w'.heap.size ∧ (w'.cell? ⟨w.heap.size + 1, 0, none⟩ = some (.int .i64 d.dc) ∧ w'.cell? ⟨w.heap.size + 1, 1, none⟩ = some (.int .i64 d.n) ∧ w'.cell? ⟨w3.heap.size, 0, none⟩ = some (.slice Ae T.es.length ne) ∧ w'.cell? ⟨w3.heap.size, 1, none⟩ = some (.slice Ak T.ks.length nk) ∧ w'.cell? ⟨w3.heap.size, 2, none⟩ = some (.slice Ac C.length nc) ∧
      w'.cell? ⟨w.heap.size, 0, none⟩ = some (.slice A3 t.es.length n3) ∧ w'.cell? ⟨w.heap.size, 1, none⟩ = some (.slice A4 t.ks.length n4))) := fun w' hb => by
    have hB : Below w3.heap.size w3 w' := ((Below.refl _ w3).alloc (Nat.le_refl _) _).trans (hb.mono (by omega))
    refine ⟨hB3.trans (hB.mono (by omega)), hB, by have := hb.size; simpa using this, ⟨?_, ?_, ?_, ?_, ?_, ?_, ?_⟩⟩
    · rw [hB.cell (p := ⟨w.heap.size + 1, 0, none⟩) (by show w.heap.size + 1 < _; omega)]; exact d0
    · rw [hB.cell (p := ⟨w.heap.size + 1, 1, none⟩) (by show w.heap.size + 1 < _; omega)]; exact d1
    · rw [hb.cell (p := ⟨w3.heap.size, 0, none⟩) (by simp), World.cell?_alloc_new]; rfl
    · rw [hb.cell (p := ⟨w3.heap.size, 1, none⟩) (by simp), World.cell?_alloc_new]; rfl
    · rw [hb.cell (p := ⟨w3.heap.size, 2, none⟩) (by simp), World.cell?_alloc_new]; rfl
    · rw [hB.cell (p := ⟨w.heap.size, 0, none⟩) (by show w.heap.size < _; omega)]; exact c0
    · rw [hB.cell (p := ⟨w.heap.size, 1, none⟩) (by show w.heap.size < _; omega)]; exact c1
  have hlt3 : w.heap.size + 1 < w3.heap.size := by omega
  have hlt4 : w.heap.size < w3.heap.size := by omega
  have hne3 : w.heap.size + 1 ≠ w3.heap.size := by omega
  have hne4 : w.heap.size ≠ w3.heap.size := by omega
  clear hrd hsc
  go_wp2_with fail
  refine (r10check_any t d _ _ _ (HC.out _ (HX.out _ (Below.refl _ _)).1) hsz).mono ?_
  rintro e w4 ⟨rfl, hb4'⟩
  have hbx := hid ((Below.refl (w3.heap.size + 1) (w3.alloc (.cells #[.slice Ae T.es.length ne, .slice Ak T.ks.length nk, .slice Ac C.length nc] 33))).trans (hb4'.mono (by simp)))
  clear hb4' c0 c1 d0 d1
  obtain ⟨hB4, hb4', hs4, d0, d1, x0, x1, x2, c0, c1⟩ := HX.out _ hbx.out
  have hb4 := hid hb4'
  clear hb4'
  cases hc : chkT t d
  · have hk : k = 1 := by rw [HE1.out, hc]; rfl
    subst hk
    have HSM : Hid ((trEq T (.mk [] []) && decide (C = [])) = true) := by unfold Hid; rw [HT1.out, HC1.out, hc]; simp [trEq]
    clear hc
    go_wp2_with fail
    refine (r09same_any T (.mk [] []) C [] _ _ _ _ _ _ w4 (HT.out _ hb4.out) rd_empty (HCt.out _ hb4.out) SlP.nil).mono ?_
    rw [HSM.out]
    rintro e w5 ⟨rfl, hb5⟩
    go_wp2_with fail
    go_ret
    exact ⟨rfl, hB4.trans (hb5.mono (by omega))⟩
  · have hk : k = 0 := by rw [HE1.out, hc]; rfl
    subst hk
    have hdr := chkT_right hc
    have htr := chkT_tree hc
    have hbd := right_bd hdr
    have HSM : Hid ((trEq T (.mk [] []) && decide (C = ctxBy (ctxOf t.dots) [⟨d.dc, d.n, d.n⟩] 0)) = true) := by
      unfold Hid; rw [HT1.out, HC1.out, hc, if_pos rfl, seen_eq hdr]; simp [trEq]
    have HRN : Hid (∀ d ∈ t.dots, 0 ≤ d.n ∧ d.n ≤ 1099511627778) := right_nums htr
    have hcl : (ctxOf t.dots).length ≤ 50000 := by have := ctxOf_len t.dots; have := dots_len t; omega
    have HBL : Hid ((ctxOf t.dots).length ≤ Big) := by unfold Hid Big; omega
    have HSD : Hid (SpsOk (ctxOf t.dots)) := spsOk_ctxOf (right_dots t 5 htr)
    have HSP : Hid (SpsOk [⟨d.dc, d.n, d.n⟩]) := fun s hs => by simp at hs; subst hs; simp; omega
    have HEO : Hid (En.Ok ⟨d.dc, d.n, ByteArray.empty, 0⟩) := En.Ok.mk' hd ⟨by decide, by decide⟩
    have HY : Hid (∀ w', Below w4.heap.size w4 w' → w'.cell? ⟨w.heap.size + 1, 0, none⟩ = some (.int .i64 d.dc) ∧ w'.cell? ⟨w.heap.size + 1, 1, none⟩ = some (.int .i64 d.n) ∧ w'.cell? ⟨w3.heap.size, 0, none⟩ = some (.slice Ae T.es.length ne) ∧ w'.cell? ⟨w3.heap.size, 1, none⟩ = some (.slice Ak T.ks.length nk) ∧ w'.cell? ⟨w3.heap.size, 2, none⟩ = some (.slice Ac C.length nc) ∧ w'.cell? ⟨w.heap.size, 0, none⟩ = some (.slice A3 t.es.length n3) ∧ w'.cell? ⟨w.heap.size, 1, none⟩ = some (.slice A4 t.ks.length n4)) := fun w' hb => (HX.out _ (hbx.out.trans (hb.mono hs4))).2.2.2
    clear hc hdr hbd htr
    go_upto_region 6 with (fail)
    go_region_held3 (fun w' => w'.cell? ⟨w.heap.size + 1, 0, none⟩ = some (.int .i64 d.dc) ∧ w'.cell? ⟨w.heap.size + 1, 1, none⟩ = some (.int .i64 d.n) ∧ w'.cell? ⟨w3.heap.size, 0, none⟩ = some (.slice Ae T.es.length ne) ∧ w'.cell? ⟨w3.heap.size, 1, none⟩ = some (.slice Ak T.ks.length nk) ∧ w'.cell? ⟨w3.heap.size, 2, none⟩ = some (.slice Ac C.length nc) ∧ w'.cell? ⟨w.heap.size, 0, none⟩ = some (.slice A3 t.es.length n3) ∧ w'.cell? ⟨w.heap.size, 1, none⟩ = some (.slice A4 t.ks.length n4))
      (first | go_keep | exact HY.out _ hb7.out | exact HY.out _ hb6.out | exact HY.out _ hb5.out)
      (first | (go_at_call 23; go_loud ((refine (r08dots_any t _ _ _ (HC.out _ hB4.drew) hsz HRN.out).mono ?_); rintro e w5 ⟨v5, rfl, ho5, hb⟩; have hb5 := hid (((Below.refl w4.heap.size w4).drew).trans hb); have hsl5 := hid (ho5.sl HBL.out); obtain ⟨A9, c9, hv9⟩ := ho5.shape; subst hv9; clear ho5))
             | (go_at_call 26; go_loud ((refine (r10gone_any d (ctxOf t.dots) _ w5 hd hsl5.out hcl HSD.out HSP.out).mono ?_); rintro e w6 ⟨ve6, vk6, vc6, rfl, hrd5, hsc5, hb⟩; obtain ⟨A5, n5, A6, n6, hv5, hv6⟩ := rda_shape hrd5; subst hv5; subst hv6; obtain ⟨A7, n7, hv7⟩ := hsc5.shape; subst hv7; have hrd6 := hid (rda_rd hrd5 (fun b hb => hb.2) (Below.refl _ _)); have hsc6 := hid (hsc5.slp (fun b hb => hb.2) (Below.refl _ _)); clear hrd5 hsc5; have hb6 := hid (hb5.out.trans (hb.mono hb5.out.size))))
             | (go_at_call 14; go_loud ((refine (r09same_any T _ C _ _ _ _ _ _ _ w6 (HT.out _ (hb4.out.trans (hb6.out.mono (by omega)))) hrd6.out (HCt.out _ (hb4.out.trans (hb6.out.mono (by omega)))) hsc6.out).mono ?_); rw [HSM.out]; rintro e w7 ⟨rfl, hb⟩; have hb7 := hid (hb6.out.trans (hb.mono hb6.out.size)))))
    go_wp2_with fail
    go_ret
    exact ⟨rfl, hB4.trans (hb7.out.mono (by omega))⟩
end Go.Proofs.Ytililfcegeddaaa
