/- The law CausalLeast returns true at every input, and leaves its arguments as they were. No condition. -/
import Derived.Test.YtkjijbogbelilaaGreatTb2
namespace Go.Proofs.YtkjijbogbelilaaGreat
open Go.ChangeShapes Go.WideShapes Go.ChangeAt Go.RowKit
set_option maxRecDepth 100000

theorem causalLeast_lifted (os : Os) (started : os.Started) (H : Type) (enc : TypeId × Value → H) :
    ReturnsInHanded {} Tryz.checked os 8 .any (Rows.causalLeastSpec.pre6 enc Tryz.prog Tryz.f8 Rows.causalLeastRow.domain false) (Rows.causalLeastSpec.post enc Tryz.prog Tryz.f8 false true false false) := by
  refine returnsInHanded_of_change_sized (C := Tryz.checked) own started (by kernel_rfl) Tryz.func8
    (ChangeSpec.witness6 (enc := enc) (C := Tryz.checked) false ⟨#[], #[.agg #[.slice none 0 0, .slice none 0 0, .slice none 0 0], .agg #[.slice none 0 0, .slice none 0 0, .slice none 0 0], .agg #[.slice none 0 0, .slice none 0 0, .slice none 0 0]], []⟩ 8 (by kernel_rfl) (by kernel_rfl) (by kernel_rfl) (by kernel_rfl)) ?_
  intro W base args ds gs before hval0 hW _ hsz0 _
  have hsz : (DataW.weightsEach Tryz.prog (Tryz.f8.params.toList ++ Rows.causalLeastSpec.plain.varTypes Tryz.prog) (ds ++ gs)).all (· ≤ reachBytes) = true := hsz0
  clear hsz0
  have hval : ∀ (j : Nat) t v, Tryz.f8.params[j]? = some t → args[j]? = some v → Value.okWide Tryz.prog W .any base t v := hval0
  have hW' := hW
  obtain ⟨p, q, hA0, hV, rfl, _, _⟩ := hW
  have hA : DataW.TrodAll enc Tryz.prog W 0 (fun _ => true) true Tryz.f8.params.toList args.toList ds p := hA0
  rw [Tryz.params8] at hA hval hsz
  have hAll := hA
  have hlt : ∀ x ∈ p, x.block < W.heap.size := fun x hx => hW'.lt x (List.mem_append_left _ hx)
  obtain ⟨v0, v1, v2, d0, d1, d2, p0, p1, p2, rfl, rfl, rfl, h0, h1, h2⟩ := trodAll_three hA
  obtain ⟨rfl, rfl⟩ := trodVars_none hV
  clear hA0 hval0
  simp only [List.append_nil] at hW'
  obtain ⟨t0, c0, xe0, xk0, xc0, rfl, ht0, hc0⟩ := ca_arg (hval 0 29 v0 rfl rfl) h0 (fun m hm => by
    have := List.all_eq_true.1 hsz m (DataW.weights_mem_each (j := 0) (t := 29) (d := d0) rfl rfl m hm)
    simpa using this)
  obtain ⟨t1, c1, xe1, xk1, xc1, rfl, ht1, hc1⟩ := ca_arg (hval 1 29 v1 rfl rfl) h1 (fun m hm => by
    have := List.all_eq_true.1 hsz m (DataW.weights_mem_each (j := 1) (t := 29) (d := d1) rfl rfl m hm)
    simpa using this)
  obtain ⟨t2, c2, xe2, xk2, xc2, rfl, ht2, hc2⟩ := ca_arg (hval 2 29 v2 rfl rfl) h2 (fun m hm => by
    have := List.all_eq_true.1 hsz m (DataW.weights_mem_each (j := 2) (t := 29) (d := d2) rfl rfl m hm)
    simpa using this)
  refine (lawCT_any t0 c0 t1 c1 t2 c2 W xe0 xk0 xc0 xe1 xk1 xc1 xe2 xk2 xc2 ht0 hc0 ht1 hc1 ht2 hc2).mono fun e W' ⟨he, hb⟩ => ?_
  subst he
  have hargs := trodAll_below laidOut _ _ _ _ (fun t ht => by simp at ht; rcases ht with rfl | rfl | rfl <;> first | exact okCausal) hAll hb hlt
  exact ⟨_, rfl, _, _, _, [], _, [], hW', trodAll_mk1 (shut_bool Tryz.underlying4 _), hargs, rfl, hb.frame _, fun h => by cases h⟩

theorem causalLeast_j00 : (Rows.causalLeastRow.wf (OpenSpec.ofChange Rows.causalLeastSpec)) = true := by kernel_rfl
theorem causalLeast_j03 : (Tryz.f8.params.all (Tryz.pinned.checked.prog.readableRec ·)) = true := by kernel_rfl
theorem causalLeast_j04 : (namedTie Tryz.pinned.checked.prog Rows.causalLeastRow.named Rows.causalLeastSpec.vars) = true := by kernel_rfl
theorem causalLeast_j05 : ((Rows.causalLeastRow.stops == [])) = true := by kernel_rfl
theorem causalLeast_j07 : ((Rows.causalLeastRow.knobs == [])) = true := by kernel_rfl
theorem causalLeast_j09 : ((Rows.causalLeastRow.inPlace == Tryz.pinned.checked.prog.inPlace 8)) = true := by kernel_rfl
theorem causalLeast_j10 : ((Rows.causalLeastRow.unfollowed == Tryz.pinned.checked.prog.unfollowed 8)) = true := by kernel_rfl
theorem causalLeast_j11 : ((Rows.causalLeastRow.recurses == Tryz.pinned.checked.prog.recurses 8)) = true := by kernel_rfl
theorem causalLeast_j12 : ((Rows.causalLeastRow.named == Tryz.pinned.checked.prog.varsNamed 8)) = true := by kernel_rfl
theorem causalLeast_j13 : ((Rows.causalLeastRow.maps == (Tryz.f8.params.toList ++ Rows.causalLeastSpec.plain.varTypes Tryz.pinned.checked.prog).any (Tryz.pinned.checked.prog.mapsRec ·))) = true := by kernel_rfl
theorem causalLeast_j14 : ((Rows.causalLeastRow.ifaces == (Tryz.f8.params.toList ++ Rows.causalLeastSpec.plain.varTypes Tryz.pinned.checked.prog).any (Tryz.pinned.checked.prog.ifacesRec ·))) = true := by kernel_rfl
theorem causalLeast_j15 : ((Rows.causalLeastRow.mapsOut == Tryz.pinned.checked.prog.mapsAmong Tryz.f8.resultTypes.toList)) = true := by kernel_rfl
theorem causalLeast_j16 : ((Rows.causalLeastRow.loops == (Tryz.f8.params.toList ++ Rows.causalLeastSpec.plain.varTypes Tryz.pinned.checked.prog).any (Tryz.pinned.checked.prog.loopsFrom ·))) = true := by kernel_rfl
theorem causalLeast_j17 : ((Rows.causalLeastRow.wideKeys == (Tryz.f8.params.toList ++ Rows.causalLeastSpec.plain.varTypes Tryz.pinned.checked.prog ++ Tryz.f8.resultTypes.toList).any (Tryz.pinned.checked.prog.wideKeysFrom ·))) = true := by kernel_rfl
theorem causalLeast_j18 : (Rows.causalLeastSpec.vars.all (Tryz.pinned.checked.prog.varReadable ·)) = true := by kernel_rfl
theorem causalLeast_j19 : (Tryz.f8.resultTypes.all (fun t => Tryz.pinned.checked.prog.readableRec t && decide (t < Tryz.pinned.checked.prog.types.size))) = true := by kernel_rfl
theorem causalLeast_j20 : ((Rows.causalLeastRow.ifacesOut == Tryz.f8.resultTypes.toList.any (Tryz.pinned.checked.prog.ifacesRec ·))) = true := by kernel_rfl
theorem causalLeast_j21 : ((Rows.causalLeastRow.loopsOut == Tryz.f8.resultTypes.toList.any (Tryz.pinned.checked.prog.loopsFrom ·))) = true := by kernel_rfl
theorem causalLeast_j22 : ((Rows.causalLeastRow.plainKeys == Tryz.pinned.checked.prog.plainKeys)) = true := by kernel_rfl
theorem causalLeast_j23 : (Rows.causalLeastRow.shortTexts.isNone) = true := by kernel_rfl
theorem causalLeast_j26 : ((Rows.causalLeastRow.lifted == Tryz.pinned.checked.prog.liftsFinal)) = true := by rw [headFinal]; kernel_rfl
theorem causalLeast_j27 : ((Tryz.pinned.checked.prog.make == some Rows.causalLeastRow.make)) = true := by rw [headMake]; kernel_rfl
theorem causalLeast_j28 : ((Rows.causalLeastRow.kinds == (if Rows.causalLeastRow.domain.isEmpty then [] else Tryz.f8.params.toList.map fun t => match Tryz.pinned.checked.prog.underlying t with | some (.int k) => some k | _ => none))) = true := by kernel_rfl
theorem causalLeast_j29 : ((Rows.causalLeastRow.pinned == Rows.causalLeastRow.pinnedBy)) = true := by kernel_rfl
theorem causalLeast_j30 : ((Rows.causalLeastRow.veiled == (Tryz.f8.params.toList ++ Rows.causalLeastSpec.plain.varTypes Tryz.pinned.checked.prog ++ Tryz.f8.resultTypes.toList).any (Tryz.pinned.checked.prog.veiledRec ·))) = true := by kernel_rfl
theorem causalLeast_j31 : (Rows.causalLeastRow.veiledFits Tryz.pinned.checked.prog Tryz.f8.params.toList (Tryz.f8.params.toList ++ Rows.causalLeastSpec.plain.varTypes Tryz.pinned.checked.prog ++ Tryz.f8.resultTypes.toList)) = true := by kernel_rfl
theorem causalLeast_closed : joinedFacts Tryz.pinned.checked.prog 8 Tryz.f8 Rows.causalLeastSpec Rows.causalLeastRow = true :=
  and2 (and2 (and2 (and2 (and2 (and2 (and2 (and2 (and2 (and2 (and2 (and2 (and2 (and2 (and2 (and2 (and2 (and2 (and2 (and2 (and2 (and2 (and2 (and2 (and2 (and2 (and2 (and2 (and2 (and2 (and2 (causalLeast_j00) closedP01) closedP02) causalLeast_j03) causalLeast_j04) causalLeast_j05) closedP06) causalLeast_j07) closedP08) causalLeast_j09) causalLeast_j10) causalLeast_j11) causalLeast_j12) causalLeast_j13) causalLeast_j14) causalLeast_j15) causalLeast_j16) causalLeast_j17) causalLeast_j18) causalLeast_j19) causalLeast_j20) causalLeast_j21) causalLeast_j22) causalLeast_j23) closedP24) closedP25) causalLeast_j26) causalLeast_j27) causalLeast_j28) causalLeast_j29) causalLeast_j30) causalLeast_j31

theorem causalLeast_holds : Rows.CausalLeastSaid :=
  OpenClaim.holds_of_wide 8 Tryz.f8 rfl rfl rfl rfl rfl rfl rfl ⟨rfl, rfl, rfl, rfl, rfl⟩ rfl rfl rfl rfl rfl (by kernel_rfl) Tryz.func8 causalLeast_closed
    (of_decide_eq_true (by kernel_rfl)) (by unfold Func.isWrapper; first | (rw [if_pos (by decide +kernel)]; kernel_rfl) | (rw [if_neg (by decide +kernel)]; exact ⟨rfl, rfl⟩))
    (fun os started H enc _ => causalLeast_lifted os started H enc)
end Go.Proofs.YtkjijbogbelilaaGreat
