/- The law CausalLattice returns true at every input, and leaves its arguments as they were. No condition. -/
import Derived.Test.YtkjijbogbelilaaGreatTb2
namespace Go.Proofs.YtkjijbogbelilaaGreat
open Go.ChangeShapes Go.WideShapes Go.ChangeAt Go.RowKit
set_option maxRecDepth 100000

theorem causalLattice_lifted (os : Os) (started : os.Started) (H : Type) (enc : TypeId × Value → H) :
    ReturnsInHanded {} Tryz.checked os 7 .any (Rows.causalLatticeSpec.pre6 enc Tryz.prog Tryz.f7 Rows.causalLatticeRow.domain false) (Rows.causalLatticeSpec.post enc Tryz.prog Tryz.f7 false true false false) := by
  refine returnsInHanded_of_change_sized (C := Tryz.checked) own started (by kernel_rfl) Tryz.func7
    (ChangeSpec.witness6 (enc := enc) (C := Tryz.checked) false ⟨#[], #[.agg #[.slice none 0 0, .slice none 0 0, .slice none 0 0], .agg #[.slice none 0 0, .slice none 0 0, .slice none 0 0], .agg #[.slice none 0 0, .slice none 0 0, .slice none 0 0]], []⟩ 8 (by kernel_rfl) (by kernel_rfl) (by kernel_rfl) (by kernel_rfl)) ?_
  intro W base args ds gs before hval0 hW _ hsz0 _
  have hsz : (DataW.weightsEach Tryz.prog (Tryz.f7.params.toList ++ Rows.causalLatticeSpec.plain.varTypes Tryz.prog) (ds ++ gs)).all (· ≤ reachBytes) = true := hsz0
  clear hsz0
  have hval : ∀ (j : Nat) t v, Tryz.f7.params[j]? = some t → args[j]? = some v → Value.okWide Tryz.prog W .any base t v := hval0
  have hW' := hW
  obtain ⟨p, q, hA0, hV, rfl, _, _⟩ := hW
  have hA : DataW.TrodAll enc Tryz.prog W 0 (fun _ => true) true Tryz.f7.params.toList args.toList ds p := hA0
  rw [Tryz.params7] at hA hval hsz
  have hAll := hA
  have hlt : ∀ x ∈ p, x.block < W.heap.size := fun x hx => hW'.lt x (List.mem_append_left _ hx)
  obtain ⟨v0, v1, v2, d0, d1, d2, p0, p1, p2, rfl, rfl, rfl, h0, h1, h2⟩ := trodAll_three hA
  obtain ⟨rfl, rfl⟩ := trodVars_none hV
  clear hA0 hval0
  simp only [List.append_nil] at hW'
  obtain ⟨t0, c0, xe0, xk0, xc0, rfl, ht0, hc0⟩ := ca_arg (hval 0 29 v0 rfl rfl) h0 (fun m hm => by
    have := List.all_eq_true.1 hsz m (DataW.weights_mem_each (j := 0) (t := 29) (d := d0) rfl rfl m hm)
    simpa using this)
  obtain ⟨t1, c1, xe1, xk1, xc1, rfl, ht1, hc1⟩ := ca_arg (hval 1 29 v1 rfl rfl) h1 (fun m hm => by
    have := List.all_eq_true.1 hsz m (DataW.weights_mem_each (j := 1) (t := 29) (d := d1) rfl rfl m hm)
    simpa using this)
  obtain ⟨t2, c2, xe2, xk2, xc2, rfl, ht2, hc2⟩ := ca_arg (hval 2 29 v2 rfl rfl) h2 (fun m hm => by
    have := List.all_eq_true.1 hsz m (DataW.weights_mem_each (j := 2) (t := 29) (d := d2) rfl rfl m hm)
    simpa using this)
  refine (lawCL_any t0 c0 t1 c1 t2 c2 W xe0 xk0 xc0 xe1 xk1 xc1 xe2 xk2 xc2 ht0 hc0 ht1 hc1 ht2 hc2).mono fun e W' ⟨he, hb⟩ => ?_
  subst he
  have hargs := trodAll_below laidOut _ _ _ _ (fun t ht => by simp at ht; rcases ht with rfl | rfl | rfl <;> first | exact okCausal) hAll hb hlt
  exact ⟨_, rfl, _, _, _, [], _, [], hW', trodAll_mk1 (shut_bool Tryz.underlying4 _), hargs, rfl, hb.frame _, fun h => by cases h⟩

theorem causalLattice_j00 : (Rows.causalLatticeRow.wf (OpenSpec.ofChange Rows.causalLatticeSpec)) = true := by kernel_rfl
theorem causalLattice_j03 : (Tryz.f7.params.all (Tryz.pinned.checked.prog.readableRec ·)) = true := by kernel_rfl
theorem causalLattice_j04 : (namedTie Tryz.pinned.checked.prog Rows.causalLatticeRow.named Rows.causalLatticeSpec.vars) = true := by kernel_rfl
theorem causalLattice_j05 : ((Rows.causalLatticeRow.stops == [])) = true := by kernel_rfl
theorem causalLattice_j07 : ((Rows.causalLatticeRow.knobs == [])) = true := by kernel_rfl
theorem causalLattice_j09 : ((Rows.causalLatticeRow.inPlace == Tryz.pinned.checked.prog.inPlace 7)) = true := by kernel_rfl
theorem causalLattice_j10 : ((Rows.causalLatticeRow.unfollowed == Tryz.pinned.checked.prog.unfollowed 7)) = true := by kernel_rfl
theorem causalLattice_j11 : ((Rows.causalLatticeRow.recurses == Tryz.pinned.checked.prog.recurses 7)) = true := by kernel_rfl
theorem causalLattice_j12 : ((Rows.causalLatticeRow.named == Tryz.pinned.checked.prog.varsNamed 7)) = true := by kernel_rfl
theorem causalLattice_j13 : ((Rows.causalLatticeRow.maps == (Tryz.f7.params.toList ++ Rows.causalLatticeSpec.plain.varTypes Tryz.pinned.checked.prog).any (Tryz.pinned.checked.prog.mapsRec ·))) = true := by kernel_rfl
theorem causalLattice_j14 : ((Rows.causalLatticeRow.ifaces == (Tryz.f7.params.toList ++ Rows.causalLatticeSpec.plain.varTypes Tryz.pinned.checked.prog).any (Tryz.pinned.checked.prog.ifacesRec ·))) = true := by kernel_rfl
theorem causalLattice_j15 : ((Rows.causalLatticeRow.mapsOut == Tryz.pinned.checked.prog.mapsAmong Tryz.f7.resultTypes.toList)) = true := by kernel_rfl
theorem causalLattice_j16 : ((Rows.causalLatticeRow.loops == (Tryz.f7.params.toList ++ Rows.causalLatticeSpec.plain.varTypes Tryz.pinned.checked.prog).any (Tryz.pinned.checked.prog.loopsFrom ·))) = true := by kernel_rfl
theorem causalLattice_j17 : ((Rows.causalLatticeRow.wideKeys == (Tryz.f7.params.toList ++ Rows.causalLatticeSpec.plain.varTypes Tryz.pinned.checked.prog ++ Tryz.f7.resultTypes.toList).any (Tryz.pinned.checked.prog.wideKeysFrom ·))) = true := by kernel_rfl
theorem causalLattice_j18 : (Rows.causalLatticeSpec.vars.all (Tryz.pinned.checked.prog.varReadable ·)) = true := by kernel_rfl
theorem causalLattice_j19 : (Tryz.f7.resultTypes.all (fun t => Tryz.pinned.checked.prog.readableRec t && decide (t < Tryz.pinned.checked.prog.types.size))) = true := by kernel_rfl
theorem causalLattice_j20 : ((Rows.causalLatticeRow.ifacesOut == Tryz.f7.resultTypes.toList.any (Tryz.pinned.checked.prog.ifacesRec ·))) = true := by kernel_rfl
theorem causalLattice_j21 : ((Rows.causalLatticeRow.loopsOut == Tryz.f7.resultTypes.toList.any (Tryz.pinned.checked.prog.loopsFrom ·))) = true := by kernel_rfl
theorem causalLattice_j22 : ((Rows.causalLatticeRow.plainKeys == Tryz.pinned.checked.prog.plainKeys)) = true := by kernel_rfl
theorem causalLattice_j23 : (Rows.causalLatticeRow.shortTexts.isNone) = true := by kernel_rfl
theorem causalLattice_j26 : ((Rows.causalLatticeRow.lifted == Tryz.pinned.checked.prog.liftsFinal)) = true := by rw [headFinal]; kernel_rfl
theorem causalLattice_j27 : ((Tryz.pinned.checked.prog.make == some Rows.causalLatticeRow.make)) = true := by rw [headMake]; kernel_rfl
theorem causalLattice_j28 : ((Rows.causalLatticeRow.kinds == (if Rows.causalLatticeRow.domain.isEmpty then [] else Tryz.f7.params.toList.map fun t => match Tryz.pinned.checked.prog.underlying t with | some (.int k) => some k | _ => none))) = true := by kernel_rfl
theorem causalLattice_j29 : ((Rows.causalLatticeRow.pinned == Rows.causalLatticeRow.pinnedBy)) = true := by kernel_rfl
theorem causalLattice_j30 : ((Rows.causalLatticeRow.veiled == (Tryz.f7.params.toList ++ Rows.causalLatticeSpec.plain.varTypes Tryz.pinned.checked.prog ++ Tryz.f7.resultTypes.toList).any (Tryz.pinned.checked.prog.veiledRec ·))) = true := by kernel_rfl
theorem causalLattice_j31 : (Rows.causalLatticeRow.veiledFits Tryz.pinned.checked.prog Tryz.f7.params.toList (Tryz.f7.params.toList ++ Rows.causalLatticeSpec.plain.varTypes Tryz.pinned.checked.prog ++ Tryz.f7.resultTypes.toList)) = true := by kernel_rfl
theorem causalLattice_closed : joinedFacts Tryz.pinned.checked.prog 7 Tryz.f7 Rows.causalLatticeSpec Rows.causalLatticeRow = true :=
  and2 (and2 (and2 (and2 (and2 (and2 (and2 (and2 (and2 (and2 (and2 (and2 (and2 (and2 (and2 (and2 (and2 (and2 (and2 (and2 (and2 (and2 (and2 (and2 (and2 (and2 (and2 (and2 (and2 (and2 (and2 (causalLattice_j00) closedP01) closedP02) causalLattice_j03) causalLattice_j04) causalLattice_j05) closedP06) causalLattice_j07) closedP08) causalLattice_j09) causalLattice_j10) causalLattice_j11) causalLattice_j12) causalLattice_j13) causalLattice_j14) causalLattice_j15) causalLattice_j16) causalLattice_j17) causalLattice_j18) causalLattice_j19) causalLattice_j20) causalLattice_j21) causalLattice_j22) causalLattice_j23) closedP24) closedP25) causalLattice_j26) causalLattice_j27) causalLattice_j28) causalLattice_j29) causalLattice_j30) causalLattice_j31

theorem causalLattice_holds : Rows.CausalLatticeSaid :=
  OpenClaim.holds_of_wide 7 Tryz.f7 rfl rfl rfl rfl rfl rfl rfl ⟨rfl, rfl, rfl, rfl, rfl⟩ rfl rfl rfl rfl rfl (by kernel_rfl) Tryz.func7 causalLattice_closed
    (of_decide_eq_true (by kernel_rfl)) (by unfold Func.isWrapper; first | (rw [if_pos (by decide +kernel)]; kernel_rfl) | (rw [if_neg (by decide +kernel)]; exact ⟨rfl, rfl⟩))
    (fun os started H enc _ => causalLattice_lifted os started H enc)
end Go.Proofs.YtkjijbogbelilaaGreat
