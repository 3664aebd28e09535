/- The law CausalJoins returns true at every input, and leaves its arguments as they were. No condition. -/
import Derived.Test.YtkjijbogbelilaaGreatTh3
namespace Go.Proofs.YtkjijbogbelilaaGreat
open Go.ChangeShapes Go.WideShapes Go.ChangeAt Go.RowKit
set_option maxRecDepth 100000

theorem causalJoins_lifted (os : Os) (started : os.Started) (H : Type) (enc : TypeId × Value → H) :
    ReturnsInHanded {} Tryz.checked os 3 .any (Rows.causalJoinsSpec.pre6 enc Tryz.prog Tryz.f3 Rows.causalJoinsRow.domain false) (Rows.causalJoinsSpec.post enc Tryz.prog Tryz.f3 false true false false) := by
  refine returnsInHanded_of_change_sized (C := Tryz.checked) own started (by kernel_rfl) Tryz.func3
    (ChangeSpec.witness6 (enc := enc) (C := Tryz.checked) false ⟨#[], #[.agg #[.slice none 0 0, .slice none 0 0, .slice none 0 0], .agg #[.slice none 0 0, .slice none 0 0, .slice none 0 0]], []⟩ 8 (by kernel_rfl) (by kernel_rfl) (by kernel_rfl) (by kernel_rfl)) ?_
  intro W base args ds gs before hval0 hW _ hsz0 _
  have hsz : (DataW.weightsEach Tryz.prog (Tryz.f3.params.toList ++ Rows.causalJoinsSpec.plain.varTypes Tryz.prog) (ds ++ gs)).all (· ≤ reachBytes) = true := hsz0
  clear hsz0
  have hval : ∀ (j : Nat) t v, Tryz.f3.params[j]? = some t → args[j]? = some v → Value.okWide Tryz.prog W .any base t v := hval0
  have hW' := hW
  obtain ⟨p, q, hA0, hV, rfl, _, _⟩ := hW
  have hA : DataW.TrodAll enc Tryz.prog W 0 (fun _ => true) true Tryz.f3.params.toList args.toList ds p := hA0
  rw [Tryz.params3] at hA hval hsz
  have hAll := hA
  have hlt : ∀ x ∈ p, x.block < W.heap.size := fun x hx => hW'.lt x (List.mem_append_left _ hx)
  obtain ⟨v0, v1, d0, d1, p0, p1, rfl, rfl, rfl, h0, h1⟩ := trodAll_two hA
  obtain ⟨rfl, rfl⟩ := trodVars_none hV
  clear hA0 hval0
  simp only [List.append_nil] at hW'
  obtain ⟨t0, c0, xe0, xk0, xc0, rfl, ht0, hc0⟩ := ca_arg (hval 0 29 v0 rfl rfl) h0 (fun m hm => by
    have := List.all_eq_true.1 hsz m (DataW.weights_mem_each (j := 0) (t := 29) (d := d0) rfl rfl m hm)
    simpa using this)
  obtain ⟨t1, c1, xe1, xk1, xc1, rfl, ht1, hc1⟩ := ca_arg (hval 1 29 v1 rfl rfl) h1 (fun m hm => by
    have := List.all_eq_true.1 hsz m (DataW.weights_mem_each (j := 1) (t := 29) (d := d1) rfl rfl m hm)
    simpa using this)
  refine (lawCJ_any t0 c0 t1 c1 W xe0 xk0 xc0 xe1 xk1 xc1 ht0 hc0 ht1 hc1).mono fun e W' ⟨he, hb⟩ => ?_
  subst he
  have hargs := trodAll_below laidOut _ _ _ _ (fun t ht => by simp at ht; rcases ht with rfl | rfl <;> first | exact okCausal) hAll hb hlt
  exact ⟨_, rfl, _, _, _, [], _, [], hW', trodAll_mk1 (shut_bool Tryz.underlying4 _), hargs, rfl, hb.frame _, fun h => by cases h⟩

theorem causalJoins_j00 : (Rows.causalJoinsRow.wf (OpenSpec.ofChange Rows.causalJoinsSpec)) = true := by kernel_rfl
theorem causalJoins_j03 : (Tryz.f3.params.all (Tryz.pinned.checked.prog.readableRec ·)) = true := by kernel_rfl
theorem causalJoins_j04 : (namedTie Tryz.pinned.checked.prog Rows.causalJoinsRow.named Rows.causalJoinsSpec.vars) = true := by kernel_rfl
theorem causalJoins_j05 : ((Rows.causalJoinsRow.stops == [])) = true := by kernel_rfl
theorem causalJoins_j07 : ((Rows.causalJoinsRow.knobs == [])) = true := by kernel_rfl
theorem causalJoins_j09 : ((Rows.causalJoinsRow.inPlace == Tryz.pinned.checked.prog.inPlace 3)) = true := by kernel_rfl
theorem causalJoins_j10 : ((Rows.causalJoinsRow.unfollowed == Tryz.pinned.checked.prog.unfollowed 3)) = true := by kernel_rfl
theorem causalJoins_j11 : ((Rows.causalJoinsRow.recurses == Tryz.pinned.checked.prog.recurses 3)) = true := by kernel_rfl
theorem causalJoins_j12 : ((Rows.causalJoinsRow.named == Tryz.pinned.checked.prog.varsNamed 3)) = true := by kernel_rfl
theorem causalJoins_j13 : ((Rows.causalJoinsRow.maps == (Tryz.f3.params.toList ++ Rows.causalJoinsSpec.plain.varTypes Tryz.pinned.checked.prog).any (Tryz.pinned.checked.prog.mapsRec ·))) = true := by kernel_rfl
theorem causalJoins_j14 : ((Rows.causalJoinsRow.ifaces == (Tryz.f3.params.toList ++ Rows.causalJoinsSpec.plain.varTypes Tryz.pinned.checked.prog).any (Tryz.pinned.checked.prog.ifacesRec ·))) = true := by kernel_rfl
theorem causalJoins_j15 : ((Rows.causalJoinsRow.mapsOut == Tryz.pinned.checked.prog.mapsAmong Tryz.f3.resultTypes.toList)) = true := by kernel_rfl
theorem causalJoins_j16 : ((Rows.causalJoinsRow.loops == (Tryz.f3.params.toList ++ Rows.causalJoinsSpec.plain.varTypes Tryz.pinned.checked.prog).any (Tryz.pinned.checked.prog.loopsFrom ·))) = true := by kernel_rfl
theorem causalJoins_j17 : ((Rows.causalJoinsRow.wideKeys == (Tryz.f3.params.toList ++ Rows.causalJoinsSpec.plain.varTypes Tryz.pinned.checked.prog ++ Tryz.f3.resultTypes.toList).any (Tryz.pinned.checked.prog.wideKeysFrom ·))) = true := by kernel_rfl
theorem causalJoins_j18 : (Rows.causalJoinsSpec.vars.all (Tryz.pinned.checked.prog.varReadable ·)) = true := by kernel_rfl
theorem causalJoins_j19 : (Tryz.f3.resultTypes.all (fun t => Tryz.pinned.checked.prog.readableRec t && decide (t < Tryz.pinned.checked.prog.types.size))) = true := by kernel_rfl
theorem causalJoins_j20 : ((Rows.causalJoinsRow.ifacesOut == Tryz.f3.resultTypes.toList.any (Tryz.pinned.checked.prog.ifacesRec ·))) = true := by kernel_rfl
theorem causalJoins_j21 : ((Rows.causalJoinsRow.loopsOut == Tryz.f3.resultTypes.toList.any (Tryz.pinned.checked.prog.loopsFrom ·))) = true := by kernel_rfl
theorem causalJoins_j22 : ((Rows.causalJoinsRow.plainKeys == Tryz.pinned.checked.prog.plainKeys)) = true := by kernel_rfl
theorem causalJoins_j23 : (Rows.causalJoinsRow.shortTexts.isNone) = true := by kernel_rfl
theorem causalJoins_j26 : ((Rows.causalJoinsRow.lifted == Tryz.pinned.checked.prog.liftsFinal)) = true := by rw [headFinal]; kernel_rfl
theorem causalJoins_j27 : ((Tryz.pinned.checked.prog.make == some Rows.causalJoinsRow.make)) = true := by rw [headMake]; kernel_rfl
theorem causalJoins_j28 : ((Rows.causalJoinsRow.kinds == (if Rows.causalJoinsRow.domain.isEmpty then [] else Tryz.f3.params.toList.map fun t => match Tryz.pinned.checked.prog.underlying t with | some (.int k) => some k | _ => none))) = true := by kernel_rfl
theorem causalJoins_j29 : ((Rows.causalJoinsRow.pinned == Rows.causalJoinsRow.pinnedBy)) = true := by kernel_rfl
theorem causalJoins_j30 : ((Rows.causalJoinsRow.veiled == (Tryz.f3.params.toList ++ Rows.causalJoinsSpec.plain.varTypes Tryz.pinned.checked.prog ++ Tryz.f3.resultTypes.toList).any (Tryz.pinned.checked.prog.veiledRec ·))) = true := by kernel_rfl
theorem causalJoins_j31 : (Rows.causalJoinsRow.veiledFits Tryz.pinned.checked.prog Tryz.f3.params.toList (Tryz.f3.params.toList ++ Rows.causalJoinsSpec.plain.varTypes Tryz.pinned.checked.prog ++ Tryz.f3.resultTypes.toList)) = true := by kernel_rfl
theorem causalJoins_closed : joinedFacts Tryz.pinned.checked.prog 3 Tryz.f3 Rows.causalJoinsSpec Rows.causalJoinsRow = true :=
  and2 (and2 (and2 (and2 (and2 (and2 (and2 (and2 (and2 (and2 (and2 (and2 (and2 (and2 (and2 (and2 (and2 (and2 (and2 (and2 (and2 (and2 (and2 (and2 (and2 (and2 (and2 (and2 (and2 (and2 (and2 (causalJoins_j00) closedP01) closedP02) causalJoins_j03) causalJoins_j04) causalJoins_j05) closedP06) causalJoins_j07) closedP08) causalJoins_j09) causalJoins_j10) causalJoins_j11) causalJoins_j12) causalJoins_j13) causalJoins_j14) causalJoins_j15) causalJoins_j16) causalJoins_j17) causalJoins_j18) causalJoins_j19) causalJoins_j20) causalJoins_j21) causalJoins_j22) causalJoins_j23) closedP24) closedP25) causalJoins_j26) causalJoins_j27) causalJoins_j28) causalJoins_j29) causalJoins_j30) causalJoins_j31

theorem causalJoins_holds : Rows.CausalJoinsSaid :=
  OpenClaim.holds_of_wide 3 Tryz.f3 rfl rfl rfl rfl rfl rfl rfl ⟨rfl, rfl, rfl, rfl, rfl⟩ rfl rfl rfl rfl rfl (by kernel_rfl) Tryz.func3 causalJoins_closed
    (of_decide_eq_true (by kernel_rfl)) (by unfold Func.isWrapper; first | (rw [if_pos (by decide +kernel)]; kernel_rfl) | (rw [if_neg (by decide +kernel)]; exact ⟨rfl, rfl⟩))
    (fun os started H enc _ => causalJoins_lifted os started H enc)
end Go.Proofs.YtkjijbogbelilaaGreat
