/- The law CausalEntry returns true at every input, and leaves its arguments as they were. No condition. -/
import Derived.Test.YtkjijbogbelilaaGreatTi1
namespace Go.Proofs.YtkjijbogbelilaaGreat
open Go.ChangeShapes Go.WideShapes Go.ChangeAt Go.RowKit
set_option maxRecDepth 100000

theorem causalEntry_lifted (os : Os) (started : os.Started) (H : Type) (enc : TypeId × Value → H) :
    ReturnsInHanded {} Tryz.checked os 6 .any (Rows.causalEntrySpec.pre6 enc Tryz.prog Tryz.f6 Rows.causalEntryRow.domain false) (Rows.causalEntrySpec.post enc Tryz.prog Tryz.f6 false true false false) := by
  refine returnsInHanded_of_change_sized (C := Tryz.checked) own started (by kernel_rfl) Tryz.func6
    (ChangeSpec.witness6 (enc := enc) (C := Tryz.checked) false ⟨#[], #[.agg #[.slice none 0 0, .slice none 0 0, .slice none 0 0], .agg #[.slice none 0 0, .slice none 0 0, .slice none 0 0], .slice none 0 0, .agg #[.int .i64 0, .int .i64 0]], []⟩ 8 (by kernel_rfl) (by kernel_rfl) (by kernel_rfl) (by kernel_rfl)) ?_
  intro W base args ds gs before hval0 hW _ hsz0 _
  have hsz : (DataW.weightsEach Tryz.prog (Tryz.f6.params.toList ++ Rows.causalEntrySpec.plain.varTypes Tryz.prog) (ds ++ gs)).all (· ≤ reachBytes) = true := hsz0
  clear hsz0
  have hval : ∀ (j : Nat) t v, Tryz.f6.params[j]? = some t → args[j]? = some v → Value.okWide Tryz.prog W .any base t v := hval0
  have hW' := hW
  obtain ⟨p, q, hA0, hV, rfl, _, _⟩ := hW
  have hA : DataW.TrodAll enc Tryz.prog W 0 (fun _ => true) true Tryz.f6.params.toList args.toList ds p := hA0
  rw [Tryz.params6] at hA hval hsz
  have hAll := hA
  have hlt : ∀ x ∈ p, x.block < W.heap.size := fun x hx => hW'.lt x (List.mem_append_left _ hx)
  obtain ⟨v0, v1, v2, v3, d0, d1, d2, d3, p0, p1, p2, p3, rfl, rfl, rfl, h0, h1, h2, h3⟩ := trodAll_four hA
  obtain ⟨rfl, rfl⟩ := trodVars_none hV
  clear hA0 hval0
  simp only [List.append_nil] at hW'
  obtain ⟨t0, c0, xe0, xk0, xc0, rfl, ht0, hc0⟩ := ca_arg (hval 0 29 v0 rfl rfl) h0 (fun m hm => by
    have := List.all_eq_true.1 hsz m (DataW.weights_mem_each (j := 0) (t := 29) (d := d0) rfl rfl m hm)
    simpa using this)
  obtain ⟨t1, c1, xe1, xk1, xc1, rfl, ht1, hc1⟩ := ca_arg (hval 1 29 v1 rfl rfl) h1 (fun m hm => by
    have := List.all_eq_true.1 hsz m (DataW.weights_mem_each (j := 1) (t := 29) (d := d1) rfl rfl m hm)
    simpa using this)
  obtain ⟨l2, hl2⟩ := strs_arg (hval 2 40 v2 rfl rfl) h2 (fun m hm => by
    have := List.all_eq_true.1 hsz m (DataW.weights_mem_each (j := 2) (t := 40) (d := d2) rfl rfl m hm)
    simpa using this)
  obtain ⟨x3, rfl, hx3⟩ := dot_arg (hval 3 42 v3 rfl rfl) h3
  refine (lawCN_any t0 c0 t1 c1 l2 x3 W xe0 xk0 xc0 xe1 xk1 xc1 v2 ht0 hc0 ht1 hc1 hl2 hx3).mono fun e W' ⟨he, hb⟩ => ?_
  subst he
  have hargs := trodAll_below laidOut _ _ _ _ (fun t ht => by simp at ht; rcases ht with rfl | rfl | rfl | rfl <;> first | exact okCausal | exact okStrings | exact okDot) hAll hb hlt
  exact ⟨_, rfl, _, _, _, [], _, [], hW', trodAll_mk1 (shut_bool Tryz.underlying4 _), hargs, rfl, hb.frame _, fun h => by cases h⟩

theorem causalEntry_j00 : (Rows.causalEntryRow.wf (OpenSpec.ofChange Rows.causalEntrySpec)) = true := by kernel_rfl
theorem causalEntry_j03 : (Tryz.f6.params.all (Tryz.pinned.checked.prog.readableRec ·)) = true := by kernel_rfl
theorem causalEntry_j04 : (namedTie Tryz.pinned.checked.prog Rows.causalEntryRow.named Rows.causalEntrySpec.vars) = true := by kernel_rfl
theorem causalEntry_j05 : ((Rows.causalEntryRow.stops == [])) = true := by kernel_rfl
theorem causalEntry_j07 : ((Rows.causalEntryRow.knobs == [])) = true := by kernel_rfl
theorem causalEntry_j09 : ((Rows.causalEntryRow.inPlace == Tryz.pinned.checked.prog.inPlace 6)) = true := by kernel_rfl
theorem causalEntry_j10 : ((Rows.causalEntryRow.unfollowed == Tryz.pinned.checked.prog.unfollowed 6)) = true := by kernel_rfl
theorem causalEntry_j11 : ((Rows.causalEntryRow.recurses == Tryz.pinned.checked.prog.recurses 6)) = true := by kernel_rfl
theorem causalEntry_j12 : ((Rows.causalEntryRow.named == Tryz.pinned.checked.prog.varsNamed 6)) = true := by kernel_rfl
theorem causalEntry_j13 : ((Rows.causalEntryRow.maps == (Tryz.f6.params.toList ++ Rows.causalEntrySpec.plain.varTypes Tryz.pinned.checked.prog).any (Tryz.pinned.checked.prog.mapsRec ·))) = true := by kernel_rfl
theorem causalEntry_j14 : ((Rows.causalEntryRow.ifaces == (Tryz.f6.params.toList ++ Rows.causalEntrySpec.plain.varTypes Tryz.pinned.checked.prog).any (Tryz.pinned.checked.prog.ifacesRec ·))) = true := by kernel_rfl
theorem causalEntry_j15 : ((Rows.causalEntryRow.mapsOut == Tryz.pinned.checked.prog.mapsAmong Tryz.f6.resultTypes.toList)) = true := by kernel_rfl
theorem causalEntry_j16 : ((Rows.causalEntryRow.loops == (Tryz.f6.params.toList ++ Rows.causalEntrySpec.plain.varTypes Tryz.pinned.checked.prog).any (Tryz.pinned.checked.prog.loopsFrom ·))) = true := by kernel_rfl
theorem causalEntry_j17 : ((Rows.causalEntryRow.wideKeys == (Tryz.f6.params.toList ++ Rows.causalEntrySpec.plain.varTypes Tryz.pinned.checked.prog ++ Tryz.f6.resultTypes.toList).any (Tryz.pinned.checked.prog.wideKeysFrom ·))) = true := by kernel_rfl
theorem causalEntry_j18 : (Rows.causalEntrySpec.vars.all (Tryz.pinned.checked.prog.varReadable ·)) = true := by kernel_rfl
theorem causalEntry_j19 : (Tryz.f6.resultTypes.all (fun t => Tryz.pinned.checked.prog.readableRec t && decide (t < Tryz.pinned.checked.prog.types.size))) = true := by kernel_rfl
theorem causalEntry_j20 : ((Rows.causalEntryRow.ifacesOut == Tryz.f6.resultTypes.toList.any (Tryz.pinned.checked.prog.ifacesRec ·))) = true := by kernel_rfl
theorem causalEntry_j21 : ((Rows.causalEntryRow.loopsOut == Tryz.f6.resultTypes.toList.any (Tryz.pinned.checked.prog.loopsFrom ·))) = true := by kernel_rfl
theorem causalEntry_j22 : ((Rows.causalEntryRow.plainKeys == Tryz.pinned.checked.prog.plainKeys)) = true := by kernel_rfl
theorem causalEntry_j23 : (Rows.causalEntryRow.shortTexts.isNone) = true := by kernel_rfl
theorem causalEntry_j26 : ((Rows.causalEntryRow.lifted == Tryz.pinned.checked.prog.liftsFinal)) = true := by rw [headFinal]; kernel_rfl
theorem causalEntry_j27 : ((Tryz.pinned.checked.prog.make == some Rows.causalEntryRow.make)) = true := by rw [headMake]; kernel_rfl
theorem causalEntry_j28 : ((Rows.causalEntryRow.kinds == (if Rows.causalEntryRow.domain.isEmpty then [] else Tryz.f6.params.toList.map fun t => match Tryz.pinned.checked.prog.underlying t with | some (.int k) => some k | _ => none))) = true := by kernel_rfl
theorem causalEntry_j29 : ((Rows.causalEntryRow.pinned == Rows.causalEntryRow.pinnedBy)) = true := by kernel_rfl
theorem causalEntry_j30 : ((Rows.causalEntryRow.veiled == (Tryz.f6.params.toList ++ Rows.causalEntrySpec.plain.varTypes Tryz.pinned.checked.prog ++ Tryz.f6.resultTypes.toList).any (Tryz.pinned.checked.prog.veiledRec ·))) = true := by kernel_rfl
theorem causalEntry_j31 : (Rows.causalEntryRow.veiledFits Tryz.pinned.checked.prog Tryz.f6.params.toList (Tryz.f6.params.toList ++ Rows.causalEntrySpec.plain.varTypes Tryz.pinned.checked.prog ++ Tryz.f6.resultTypes.toList)) = true := by kernel_rfl
theorem causalEntry_closed : joinedFacts Tryz.pinned.checked.prog 6 Tryz.f6 Rows.causalEntrySpec Rows.causalEntryRow = true :=
  and2 (and2 (and2 (and2 (and2 (and2 (and2 (and2 (and2 (and2 (and2 (and2 (and2 (and2 (and2 (and2 (and2 (and2 (and2 (and2 (and2 (and2 (and2 (and2 (and2 (and2 (and2 (and2 (and2 (and2 (and2 (causalEntry_j00) closedP01) closedP02) causalEntry_j03) causalEntry_j04) causalEntry_j05) closedP06) causalEntry_j07) closedP08) causalEntry_j09) causalEntry_j10) causalEntry_j11) causalEntry_j12) causalEntry_j13) causalEntry_j14) causalEntry_j15) causalEntry_j16) causalEntry_j17) causalEntry_j18) causalEntry_j19) causalEntry_j20) causalEntry_j21) causalEntry_j22) causalEntry_j23) closedP24) closedP25) causalEntry_j26) causalEntry_j27) causalEntry_j28) causalEntry_j29) causalEntry_j30) causalEntry_j31

theorem causalEntry_holds : Rows.CausalEntrySaid :=
  OpenClaim.holds_of_wide 6 Tryz.f6 rfl rfl rfl rfl rfl rfl rfl ⟨rfl, rfl, rfl, rfl, rfl⟩ rfl rfl rfl rfl rfl (by kernel_rfl) Tryz.func6 causalEntry_closed
    (of_decide_eq_true (by kernel_rfl)) (by unfold Func.isWrapper; first | (rw [if_pos (by decide +kernel)]; kernel_rfl) | (rw [if_neg (by decide +kernel)]; exact ⟨rfl, rfl⟩))
    (fun os started H enc _ => causalEntry_lifted os started H enc)
end Go.Proofs.YtkjijbogbelilaaGreat
