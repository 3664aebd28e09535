/- The law CausalTells returns true at every input, and leaves its arguments as they were. No condition. -/
import Derived.Test.YtkjijbogbelilaaGreatTh3
namespace Go.Proofs.YtkjijbogbelilaaGreat
open Go.ChangeShapes Go.WideShapes Go.ChangeAt Go.RowKit
set_option maxRecDepth 100000

theorem causalTells_lifted (os : Os) (started : os.Started) (H : Type) (enc : TypeId × Value → H) :
    ReturnsInHanded {} Tryz.checked os 5 .any (Rows.causalTellsSpec.pre6 enc Tryz.prog Tryz.f5 Rows.causalTellsRow.domain false) (Rows.causalTellsSpec.post enc Tryz.prog Tryz.f5 false true false false) := by
  refine returnsInHanded_of_change_sized (C := Tryz.checked) own started (by kernel_rfl) Tryz.func5
    (ChangeSpec.witness6 (enc := enc) (C := Tryz.checked) false ⟨#[], #[.agg #[.slice none 0 0, .slice none 0 0, .slice none 0 0], .agg #[.slice none 0 0, .slice none 0 0, .slice none 0 0]], []⟩ 8 (by kernel_rfl) (by kernel_rfl) (by kernel_rfl) (by kernel_rfl)) ?_
  intro W base args ds gs before hval0 hW _ hsz0 _
  have hsz : (DataW.weightsEach Tryz.prog (Tryz.f5.params.toList ++ Rows.causalTellsSpec.plain.varTypes Tryz.prog) (ds ++ gs)).all (· ≤ reachBytes) = true := hsz0
  clear hsz0
  have hval : ∀ (j : Nat) t v, Tryz.f5.params[j]? = some t → args[j]? = some v → Value.okWide Tryz.prog W .any base t v := hval0
  have hW' := hW
  obtain ⟨p, q, hA0, hV, rfl, _, _⟩ := hW
  have hA : DataW.TrodAll enc Tryz.prog W 0 (fun _ => true) true Tryz.f5.params.toList args.toList ds p := hA0
  rw [Tryz.params5] at hA hval hsz
  have hAll := hA
  have hlt : ∀ x ∈ p, x.block < W.heap.size := fun x hx => hW'.lt x (List.mem_append_left _ hx)
  obtain ⟨v0, v1, d0, d1, p0, p1, rfl, rfl, rfl, h0, h1⟩ := trodAll_two hA
  obtain ⟨rfl, rfl⟩ := trodVars_none hV
  clear hA0 hval0
  simp only [List.append_nil] at hW'
  obtain ⟨t0, c0, xe0, xk0, xc0, rfl, ht0, hc0⟩ := ca_arg (hval 0 29 v0 rfl rfl) h0 (fun m hm => by
    have := List.all_eq_true.1 hsz m (DataW.weights_mem_each (j := 0) (t := 29) (d := d0) rfl rfl m hm)
    simpa using this)
  obtain ⟨t1, c1, xe1, xk1, xc1, rfl, ht1, hc1⟩ := ca_arg (hval 1 29 v1 rfl rfl) h1 (fun m hm => by
    have := List.all_eq_true.1 hsz m (DataW.weights_mem_each (j := 1) (t := 29) (d := d1) rfl rfl m hm)
    simpa using this)
  refine (lawTL_any t0 c0 t1 c1 W xe0 xk0 xc0 xe1 xk1 xc1 ht0 hc0 ht1 hc1).mono fun e W' ⟨he, hb⟩ => ?_
  subst he
  have hargs := trodAll_below laidOut _ _ _ _ (fun t ht => by simp at ht; rcases ht with rfl | rfl <;> first | exact okCausal) hAll hb hlt
  exact ⟨_, rfl, _, _, _, [], _, [], hW', trodAll_mk1 (shut_bool Tryz.underlying4 _), hargs, rfl, hb.frame _, fun h => by cases h⟩

theorem causalTells_j00 : (Rows.causalTellsRow.wf (OpenSpec.ofChange Rows.causalTellsSpec)) = true := by kernel_rfl
theorem causalTells_j03 : (Tryz.f5.params.all (Tryz.pinned.checked.prog.readableRec ·)) = true := by kernel_rfl
theorem causalTells_j04 : (namedTie Tryz.pinned.checked.prog Rows.causalTellsRow.named Rows.causalTellsSpec.vars) = true := by kernel_rfl
theorem causalTells_j05 : ((Rows.causalTellsRow.stops == [])) = true := by kernel_rfl
theorem causalTells_j07 : ((Rows.causalTellsRow.knobs == [])) = true := by kernel_rfl
theorem causalTells_j09 : ((Rows.causalTellsRow.inPlace == Tryz.pinned.checked.prog.inPlace 5)) = true := by kernel_rfl
theorem causalTells_j10 : ((Rows.causalTellsRow.unfollowed == Tryz.pinned.checked.prog.unfollowed 5)) = true := by kernel_rfl
theorem causalTells_j11 : ((Rows.causalTellsRow.recurses == Tryz.pinned.checked.prog.recurses 5)) = true := by kernel_rfl
theorem causalTells_j12 : ((Rows.causalTellsRow.named == Tryz.pinned.checked.prog.varsNamed 5)) = true := by kernel_rfl
theorem causalTells_j13 : ((Rows.causalTellsRow.maps == (Tryz.f5.params.toList ++ Rows.causalTellsSpec.plain.varTypes Tryz.pinned.checked.prog).any (Tryz.pinned.checked.prog.mapsRec ·))) = true := by kernel_rfl
theorem causalTells_j14 : ((Rows.causalTellsRow.ifaces == (Tryz.f5.params.toList ++ Rows.causalTellsSpec.plain.varTypes Tryz.pinned.checked.prog).any (Tryz.pinned.checked.prog.ifacesRec ·))) = true := by kernel_rfl
theorem causalTells_j15 : ((Rows.causalTellsRow.mapsOut == Tryz.pinned.checked.prog.mapsAmong Tryz.f5.resultTypes.toList)) = true := by kernel_rfl
theorem causalTells_j16 : ((Rows.causalTellsRow.loops == (Tryz.f5.params.toList ++ Rows.causalTellsSpec.plain.varTypes Tryz.pinned.checked.prog).any (Tryz.pinned.checked.prog.loopsFrom ·))) = true := by kernel_rfl
theorem causalTells_j17 : ((Rows.causalTellsRow.wideKeys == (Tryz.f5.params.toList ++ Rows.causalTellsSpec.plain.varTypes Tryz.pinned.checked.prog ++ Tryz.f5.resultTypes.toList).any (Tryz.pinned.checked.prog.wideKeysFrom ·))) = true := by kernel_rfl
theorem causalTells_j18 : (Rows.causalTellsSpec.vars.all (Tryz.pinned.checked.prog.varReadable ·)) = true := by kernel_rfl
theorem causalTells_j19 : (Tryz.f5.resultTypes.all (fun t => Tryz.pinned.checked.prog.readableRec t && decide (t < Tryz.pinned.checked.prog.types.size))) = true := by kernel_rfl
theorem causalTells_j20 : ((Rows.causalTellsRow.ifacesOut == Tryz.f5.resultTypes.toList.any (Tryz.pinned.checked.prog.ifacesRec ·))) = true := by kernel_rfl
theorem causalTells_j21 : ((Rows.causalTellsRow.loopsOut == Tryz.f5.resultTypes.toList.any (Tryz.pinned.checked.prog.loopsFrom ·))) = true := by kernel_rfl
theorem causalTells_j22 : ((Rows.causalTellsRow.plainKeys == Tryz.pinned.checked.prog.plainKeys)) = true := by kernel_rfl
theorem causalTells_j23 : (Rows.causalTellsRow.shortTexts.isNone) = true := by kernel_rfl
theorem causalTells_j26 : ((Rows.causalTellsRow.lifted == Tryz.pinned.checked.prog.liftsFinal)) = true := by rw [headFinal]; kernel_rfl
theorem causalTells_j27 : ((Tryz.pinned.checked.prog.make == some Rows.causalTellsRow.make)) = true := by rw [headMake]; kernel_rfl
theorem causalTells_j28 : ((Rows.causalTellsRow.kinds == (if Rows.causalTellsRow.domain.isEmpty then [] else Tryz.f5.params.toList.map fun t => match Tryz.pinned.checked.prog.underlying t with | some (.int k) => some k | _ => none))) = true := by kernel_rfl
theorem causalTells_j29 : ((Rows.causalTellsRow.pinned == Rows.causalTellsRow.pinnedBy)) = true := by kernel_rfl
theorem causalTells_j30 : ((Rows.causalTellsRow.veiled == (Tryz.f5.params.toList ++ Rows.causalTellsSpec.plain.varTypes Tryz.pinned.checked.prog ++ Tryz.f5.resultTypes.toList).any (Tryz.pinned.checked.prog.veiledRec ·))) = true := by kernel_rfl
theorem causalTells_j31 : (Rows.causalTellsRow.veiledFits Tryz.pinned.checked.prog Tryz.f5.params.toList (Tryz.f5.params.toList ++ Rows.causalTellsSpec.plain.varTypes Tryz.pinned.checked.prog ++ Tryz.f5.resultTypes.toList)) = true := by kernel_rfl
theorem causalTells_closed : joinedFacts Tryz.pinned.checked.prog 5 Tryz.f5 Rows.causalTellsSpec Rows.causalTellsRow = true :=
  and2 (and2 (and2 (and2 (and2 (and2 (and2 (and2 (and2 (and2 (and2 (and2 (and2 (and2 (and2 (and2 (and2 (and2 (and2 (and2 (and2 (and2 (and2 (and2 (and2 (and2 (and2 (and2 (and2 (and2 (and2 (causalTells_j00) closedP01) closedP02) causalTells_j03) causalTells_j04) causalTells_j05) closedP06) causalTells_j07) closedP08) causalTells_j09) causalTells_j10) causalTells_j11) causalTells_j12) causalTells_j13) causalTells_j14) causalTells_j15) causalTells_j16) causalTells_j17) causalTells_j18) causalTells_j19) causalTells_j20) causalTells_j21) causalTells_j22) causalTells_j23) closedP24) closedP25) causalTells_j26) causalTells_j27) causalTells_j28) causalTells_j29) causalTells_j30) causalTells_j31

theorem causalTells_holds : Rows.CausalTellsSaid :=
  OpenClaim.holds_of_wide 5 Tryz.f5 rfl rfl rfl rfl rfl rfl rfl ⟨rfl, rfl, rfl, rfl, rfl⟩ rfl rfl rfl rfl rfl (by kernel_rfl) Tryz.func5 causalTells_closed
    (of_decide_eq_true (by kernel_rfl)) (by unfold Func.isWrapper; first | (rw [if_pos (by decide +kernel)]; kernel_rfl) | (rw [if_neg (by decide +kernel)]; exact ⟨rfl, rfl⟩))
    (fun os started H enc _ => causalTells_lifted os started H enc)
end Go.Proofs.YtkjijbogbelilaaGreat
