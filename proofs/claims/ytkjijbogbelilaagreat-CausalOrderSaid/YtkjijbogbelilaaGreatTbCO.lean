/- The law CausalOrder returns true at every input, and leaves its arguments as they were. No condition. -/
import Derived.Test.YtkjijbogbelilaaGreatTb2
namespace Go.Proofs.YtkjijbogbelilaaGreat
open Go.ChangeShapes Go.WideShapes Go.ChangeAt Go.RowKit
set_option maxRecDepth 100000

theorem causalOrder_lifted (os : Os) (started : os.Started) (H : Type) (enc : TypeId × Value → H) :
    ReturnsInHanded {} Tryz.checked os 9 .any (Rows.causalOrderSpec.pre6 enc Tryz.prog Tryz.f9 Rows.causalOrderRow.domain false) (Rows.causalOrderSpec.post enc Tryz.prog Tryz.f9 false true false false) := by
  refine returnsInHanded_of_change_sized (C := Tryz.checked) own started (by kernel_rfl) Tryz.func9
    (ChangeSpec.witness6 (enc := enc) (C := Tryz.checked) false ⟨#[], #[.agg #[.slice none 0 0, .slice none 0 0, .slice none 0 0], .agg #[.slice none 0 0, .slice none 0 0, .slice none 0 0], .agg #[.slice none 0 0, .slice none 0 0, .slice none 0 0]], []⟩ 8 (by kernel_rfl) (by kernel_rfl) (by kernel_rfl) (by kernel_rfl)) ?_
  intro W base args ds gs before hval0 hW _ hsz0 _
  have hsz : (DataW.weightsEach Tryz.prog (Tryz.f9.params.toList ++ Rows.causalOrderSpec.plain.varTypes Tryz.prog) (ds ++ gs)).all (· ≤ reachBytes) = true := hsz0
  clear hsz0
  have hval : ∀ (j : Nat) t v, Tryz.f9.params[j]? = some t → args[j]? = some v → Value.okWide Tryz.prog W .any base t v := hval0
  have hW' := hW
  obtain ⟨p, q, hA0, hV, rfl, _, _⟩ := hW
  have hA : DataW.TrodAll enc Tryz.prog W 0 (fun _ => true) true Tryz.f9.params.toList args.toList ds p := hA0
  rw [Tryz.params9] at hA hval hsz
  have hAll := hA
  have hlt : ∀ x ∈ p, x.block < W.heap.size := fun x hx => hW'.lt x (List.mem_append_left _ hx)
  obtain ⟨v0, v1, v2, d0, d1, d2, p0, p1, p2, rfl, rfl, rfl, h0, h1, h2⟩ := trodAll_three hA
  obtain ⟨rfl, rfl⟩ := trodVars_none hV
  clear hA0 hval0
  simp only [List.append_nil] at hW'
  obtain ⟨t0, c0, xe0, xk0, xc0, rfl, ht0, hc0⟩ := ca_arg (hval 0 29 v0 rfl rfl) h0 (fun m hm => by
    have := List.all_eq_true.1 hsz m (DataW.weights_mem_each (j := 0) (t := 29) (d := d0) rfl rfl m hm)
    simpa using this)
  obtain ⟨t1, c1, xe1, xk1, xc1, rfl, ht1, hc1⟩ := ca_arg (hval 1 29 v1 rfl rfl) h1 (fun m hm => by
    have := List.all_eq_true.1 hsz m (DataW.weights_mem_each (j := 1) (t := 29) (d := d1) rfl rfl m hm)
    simpa using this)
  obtain ⟨t2, c2, xe2, xk2, xc2, rfl, ht2, hc2⟩ := ca_arg (hval 2 29 v2 rfl rfl) h2 (fun m hm => by
    have := List.all_eq_true.1 hsz m (DataW.weights_mem_each (j := 2) (t := 29) (d := d2) rfl rfl m hm)
    simpa using this)
  refine (lawCO_any t0 c0 t1 c1 t2 c2 W xe0 xk0 xc0 xe1 xk1 xc1 xe2 xk2 xc2 ht0 hc0 ht1 hc1 ht2 hc2).mono fun e W' ⟨he, hb⟩ => ?_
  subst he
  have hargs := trodAll_below laidOut _ _ _ _ (fun t ht => by simp at ht; rcases ht with rfl | rfl | rfl <;> first | exact okCausal) hAll hb hlt
  exact ⟨_, rfl, _, _, _, [], _, [], hW', trodAll_mk1 (shut_bool Tryz.underlying4 _), hargs, rfl, hb.frame _, fun h => by cases h⟩

theorem causalOrder_j00 : (Rows.causalOrderRow.wf (OpenSpec.ofChange Rows.causalOrderSpec)) = true := by kernel_rfl
theorem causalOrder_j03 : (Tryz.f9.params.all (Tryz.pinned.checked.prog.readableRec ·)) = true := by kernel_rfl
theorem causalOrder_j04 : (namedTie Tryz.pinned.checked.prog Rows.causalOrderRow.named Rows.causalOrderSpec.vars) = true := by kernel_rfl
theorem causalOrder_j05 : ((Rows.causalOrderRow.stops == [])) = true := by kernel_rfl
theorem causalOrder_j07 : ((Rows.causalOrderRow.knobs == [])) = true := by kernel_rfl
theorem causalOrder_j09 : ((Rows.causalOrderRow.inPlace == Tryz.pinned.checked.prog.inPlace 9)) = true := by kernel_rfl
theorem causalOrder_j10 : ((Rows.causalOrderRow.unfollowed == Tryz.pinned.checked.prog.unfollowed 9)) = true := by kernel_rfl
theorem causalOrder_j11 : ((Rows.causalOrderRow.recurses == Tryz.pinned.checked.prog.recurses 9)) = true := by kernel_rfl
theorem causalOrder_j12 : ((Rows.causalOrderRow.named == Tryz.pinned.checked.prog.varsNamed 9)) = true := by kernel_rfl
theorem causalOrder_j13 : ((Rows.causalOrderRow.maps == (Tryz.f9.params.toList ++ Rows.causalOrderSpec.plain.varTypes Tryz.pinned.checked.prog).any (Tryz.pinned.checked.prog.mapsRec ·))) = true := by kernel_rfl
theorem causalOrder_j14 : ((Rows.causalOrderRow.ifaces == (Tryz.f9.params.toList ++ Rows.causalOrderSpec.plain.varTypes Tryz.pinned.checked.prog).any (Tryz.pinned.checked.prog.ifacesRec ·))) = true := by kernel_rfl
theorem causalOrder_j15 : ((Rows.causalOrderRow.mapsOut == Tryz.pinned.checked.prog.mapsAmong Tryz.f9.resultTypes.toList)) = true := by kernel_rfl
theorem causalOrder_j16 : ((Rows.causalOrderRow.loops == (Tryz.f9.params.toList ++ Rows.causalOrderSpec.plain.varTypes Tryz.pinned.checked.prog).any (Tryz.pinned.checked.prog.loopsFrom ·))) = true := by kernel_rfl
theorem causalOrder_j17 : ((Rows.causalOrderRow.wideKeys == (Tryz.f9.params.toList ++ Rows.causalOrderSpec.plain.varTypes Tryz.pinned.checked.prog ++ Tryz.f9.resultTypes.toList).any (Tryz.pinned.checked.prog.wideKeysFrom ·))) = true := by kernel_rfl
theorem causalOrder_j18 : (Rows.causalOrderSpec.vars.all (Tryz.pinned.checked.prog.varReadable ·)) = true := by kernel_rfl
theorem causalOrder_j19 : (Tryz.f9.resultTypes.all (fun t => Tryz.pinned.checked.prog.readableRec t && decide (t < Tryz.pinned.checked.prog.types.size))) = true := by kernel_rfl
theorem causalOrder_j20 : ((Rows.causalOrderRow.ifacesOut == Tryz.f9.resultTypes.toList.any (Tryz.pinned.checked.prog.ifacesRec ·))) = true := by kernel_rfl
theorem causalOrder_j21 : ((Rows.causalOrderRow.loopsOut == Tryz.f9.resultTypes.toList.any (Tryz.pinned.checked.prog.loopsFrom ·))) = true := by kernel_rfl
theorem causalOrder_j22 : ((Rows.causalOrderRow.plainKeys == Tryz.pinned.checked.prog.plainKeys)) = true := by kernel_rfl
theorem causalOrder_j23 : (Rows.causalOrderRow.shortTexts.isNone) = true := by kernel_rfl
theorem causalOrder_j26 : ((Rows.causalOrderRow.lifted == Tryz.pinned.checked.prog.liftsFinal)) = true := by rw [headFinal]; kernel_rfl
theorem causalOrder_j27 : ((Tryz.pinned.checked.prog.make == some Rows.causalOrderRow.make)) = true := by rw [headMake]; kernel_rfl
theorem causalOrder_j28 : ((Rows.causalOrderRow.kinds == (if Rows.causalOrderRow.domain.isEmpty then [] else Tryz.f9.params.toList.map fun t => match Tryz.pinned.checked.prog.underlying t with | some (.int k) => some k | _ => none))) = true := by kernel_rfl
theorem causalOrder_j29 : ((Rows.causalOrderRow.pinned == Rows.causalOrderRow.pinnedBy)) = true := by kernel_rfl
theorem causalOrder_j30 : ((Rows.causalOrderRow.veiled == (Tryz.f9.params.toList ++ Rows.causalOrderSpec.plain.varTypes Tryz.pinned.checked.prog ++ Tryz.f9.resultTypes.toList).any (Tryz.pinned.checked.prog.veiledRec ·))) = true := by kernel_rfl
theorem causalOrder_j31 : (Rows.causalOrderRow.veiledFits Tryz.pinned.checked.prog Tryz.f9.params.toList (Tryz.f9.params.toList ++ Rows.causalOrderSpec.plain.varTypes Tryz.pinned.checked.prog ++ Tryz.f9.resultTypes.toList)) = true := by kernel_rfl
theorem causalOrder_closed : joinedFacts Tryz.pinned.checked.prog 9 Tryz.f9 Rows.causalOrderSpec Rows.causalOrderRow = true :=
  and2 (and2 (and2 (and2 (and2 (and2 (and2 (and2 (and2 (and2 (and2 (and2 (and2 (and2 (and2 (and2 (and2 (and2 (and2 (and2 (and2 (and2 (and2 (and2 (and2 (and2 (and2 (and2 (and2 (and2 (and2 (causalOrder_j00) closedP01) closedP02) causalOrder_j03) causalOrder_j04) causalOrder_j05) closedP06) causalOrder_j07) closedP08) causalOrder_j09) causalOrder_j10) causalOrder_j11) causalOrder_j12) causalOrder_j13) causalOrder_j14) causalOrder_j15) causalOrder_j16) causalOrder_j17) causalOrder_j18) causalOrder_j19) causalOrder_j20) causalOrder_j21) causalOrder_j22) causalOrder_j23) closedP24) closedP25) causalOrder_j26) causalOrder_j27) causalOrder_j28) causalOrder_j29) causalOrder_j30) causalOrder_j31

theorem causalOrder_holds : Rows.CausalOrderSaid :=
  OpenClaim.holds_of_wide 9 Tryz.f9 rfl rfl rfl rfl rfl rfl rfl ⟨rfl, rfl, rfl, rfl, rfl⟩ rfl rfl rfl rfl rfl (by kernel_rfl) Tryz.func9 causalOrder_closed
    (of_decide_eq_true (by kernel_rfl)) (by unfold Func.isWrapper; first | (rw [if_pos (by decide +kernel)]; kernel_rfl) | (rw [if_neg (by decide +kernel)]; exact ⟨rfl, rfl⟩))
    (fun os started H enc _ => causalOrder_lifted os started H enc)
end Go.Proofs.YtkjijbogbelilaaGreat
