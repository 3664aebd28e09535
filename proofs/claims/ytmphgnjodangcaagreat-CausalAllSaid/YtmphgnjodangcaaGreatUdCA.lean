/- The law CausalAll returns true at every input, and leaves its arguments as they were. No condition. -/
import Derived.Test.YtmphgnjodangcaaGreatUd1
namespace Go.Proofs.YtmphgnjodangcaaGreat
open Go.ChangeShapes Go.WideShapes Go.ChangeAt Go.RowKit
set_option maxRecDepth 100000

theorem causalAll_lifted (os : Os) (started : os.Started) (H : Type) (enc : TypeId × Value → H) :
    ReturnsInHanded {} Tryz.checked os 3 .any (Rows.causalAllSpec.pre6 enc Tryz.prog Tryz.f3 Rows.causalAllRow.domain false) (Rows.causalAllSpec.post enc Tryz.prog Tryz.f3 false true false false) := by
  refine returnsInHanded_of_change_sized (C := Tryz.checked) own started (by kernel_rfl) Tryz.func3
    (ChangeSpec.witness6 (enc := enc) (C := Tryz.checked) false ⟨#[], #[.slice none 0 0], []⟩ 8 (by kernel_rfl) (by kernel_rfl) (by kernel_rfl) (by kernel_rfl)) ?_
  intro W base args ds gs before hval0 hW _ hsz0 _
  have hsz : (DataW.weightsEach Tryz.prog (Tryz.f3.params.toList ++ Rows.causalAllSpec.plain.varTypes Tryz.prog) (ds ++ gs)).all (· ≤ reachBytes) = true := hsz0
  clear hsz0
  have hval : ∀ (j : Nat) t v, Tryz.f3.params[j]? = some t → args[j]? = some v → Value.okWide Tryz.prog W .any base t v := hval0
  have hW' := hW
  obtain ⟨p, q, hA0, hV, rfl, _, _⟩ := hW
  have hA : DataW.TrodAll enc Tryz.prog W 0 (fun _ => true) true Tryz.f3.params.toList args.toList ds p := hA0
  rw [Tryz.params3] at hA hval hsz
  have hAll := hA
  have hlt : ∀ x ∈ p, x.block < W.heap.size := fun x hx => hW'.lt x (List.mem_append_left _ hx)
  obtain ⟨v0, d0, rfl, rfl, h0⟩ := trodAll_one hA
  obtain ⟨rfl, rfl⟩ := trodVars_none hV
  clear hA0 hval0
  simp only [List.append_nil] at hW'
  obtain ⟨l0, hl0⟩ := cas_arg (hval 0 22 v0 rfl rfl) h0 (fun m hm => by
    have := List.all_eq_true.1 hsz m (DataW.weights_mem_each (j := 0) (t := 22) (d := d0) rfl rfl m hm)
    simpa using this)
  refine (lawCA_any l0 W v0 hl0).mono fun e W' ⟨he, hb⟩ => ?_
  subst he
  have hargs := trodAll_below laidOut _ _ _ _ (fun t ht => by simp at ht; subst ht; exact okCausals) hAll hb hlt
  exact ⟨_, rfl, _, _, _, [], _, [], hW', trodAll_mk1 (shut_bool Tryz.underlying4 _), hargs, rfl, hb.frame _, fun h => by cases h⟩

theorem causalAll_j00 : (Rows.causalAllRow.wf (OpenSpec.ofChange Rows.causalAllSpec)) = true := by kernel_rfl
theorem causalAll_j03 : (Tryz.f3.params.all (Tryz.pinned.checked.prog.readableRec ·)) = true := by kernel_rfl
theorem causalAll_j04 : (namedTie Tryz.pinned.checked.prog Rows.causalAllRow.named Rows.causalAllSpec.vars) = true := by kernel_rfl
theorem causalAll_j05 : ((Rows.causalAllRow.stops == [])) = true := by kernel_rfl
theorem causalAll_j07 : ((Rows.causalAllRow.knobs == [])) = true := by kernel_rfl
theorem causalAll_j09 : ((Rows.causalAllRow.inPlace == Tryz.pinned.checked.prog.inPlace 3)) = true := by kernel_rfl
theorem causalAll_j10 : ((Rows.causalAllRow.unfollowed == Tryz.pinned.checked.prog.unfollowed 3)) = true := by kernel_rfl
theorem causalAll_j11 : ((Rows.causalAllRow.recurses == Tryz.pinned.checked.prog.recurses 3)) = true := by kernel_rfl
theorem causalAll_j12 : ((Rows.causalAllRow.named == Tryz.pinned.checked.prog.varsNamed 3)) = true := by kernel_rfl
theorem causalAll_j13 : ((Rows.causalAllRow.maps == (Tryz.f3.params.toList ++ Rows.causalAllSpec.plain.varTypes Tryz.pinned.checked.prog).any (Tryz.pinned.checked.prog.mapsRec ·))) = true := by kernel_rfl
theorem causalAll_j14 : ((Rows.causalAllRow.ifaces == (Tryz.f3.params.toList ++ Rows.causalAllSpec.plain.varTypes Tryz.pinned.checked.prog).any (Tryz.pinned.checked.prog.ifacesRec ·))) = true := by kernel_rfl
theorem causalAll_j15 : ((Rows.causalAllRow.mapsOut == Tryz.pinned.checked.prog.mapsAmong Tryz.f3.resultTypes.toList)) = true := by kernel_rfl
theorem causalAll_j16 : ((Rows.causalAllRow.loops == (Tryz.f3.params.toList ++ Rows.causalAllSpec.plain.varTypes Tryz.pinned.checked.prog).any (Tryz.pinned.checked.prog.loopsFrom ·))) = true := by kernel_rfl
theorem causalAll_j17 : ((Rows.causalAllRow.wideKeys == (Tryz.f3.params.toList ++ Rows.causalAllSpec.plain.varTypes Tryz.pinned.checked.prog ++ Tryz.f3.resultTypes.toList).any (Tryz.pinned.checked.prog.wideKeysFrom ·))) = true := by kernel_rfl
theorem causalAll_j18 : (Rows.causalAllSpec.vars.all (Tryz.pinned.checked.prog.varReadable ·)) = true := by kernel_rfl
theorem causalAll_j19 : (Tryz.f3.resultTypes.all (fun t => Tryz.pinned.checked.prog.readableRec t && decide (t < Tryz.pinned.checked.prog.types.size))) = true := by kernel_rfl
theorem causalAll_j20 : ((Rows.causalAllRow.ifacesOut == Tryz.f3.resultTypes.toList.any (Tryz.pinned.checked.prog.ifacesRec ·))) = true := by kernel_rfl
theorem causalAll_j21 : ((Rows.causalAllRow.loopsOut == Tryz.f3.resultTypes.toList.any (Tryz.pinned.checked.prog.loopsFrom ·))) = true := by kernel_rfl
theorem causalAll_j22 : ((Rows.causalAllRow.plainKeys == Tryz.pinned.checked.prog.plainKeys)) = true := by kernel_rfl
theorem causalAll_j23 : (Rows.causalAllRow.shortTexts.isNone) = true := by kernel_rfl
theorem causalAll_j26 : ((Rows.causalAllRow.lifted == Tryz.pinned.checked.prog.liftsFinal)) = true := by rw [headFinal]; kernel_rfl
theorem causalAll_j27 : ((Tryz.pinned.checked.prog.make == some Rows.causalAllRow.make)) = true := by rw [headMake]; kernel_rfl
theorem causalAll_j28 : ((Rows.causalAllRow.kinds == (if Rows.causalAllRow.domain.isEmpty then [] else Tryz.f3.params.toList.map fun t => match Tryz.pinned.checked.prog.underlying t with | some (.int k) => some k | _ => none))) = true := by kernel_rfl
theorem causalAll_j29 : ((Rows.causalAllRow.pinned == Rows.causalAllRow.pinnedBy)) = true := by kernel_rfl
theorem causalAll_j30 : ((Rows.causalAllRow.veiled == (Tryz.f3.params.toList ++ Rows.causalAllSpec.plain.varTypes Tryz.pinned.checked.prog ++ Tryz.f3.resultTypes.toList).any (Tryz.pinned.checked.prog.veiledRec ·))) = true := by kernel_rfl
theorem causalAll_j31 : (Rows.causalAllRow.veiledFits Tryz.pinned.checked.prog Tryz.f3.params.toList (Tryz.f3.params.toList ++ Rows.causalAllSpec.plain.varTypes Tryz.pinned.checked.prog ++ Tryz.f3.resultTypes.toList)) = true := by kernel_rfl
theorem causalAll_closed : joinedFacts Tryz.pinned.checked.prog 3 Tryz.f3 Rows.causalAllSpec Rows.causalAllRow = true :=
  and2 (and2 (and2 (and2 (and2 (and2 (and2 (and2 (and2 (and2 (and2 (and2 (and2 (and2 (and2 (and2 (and2 (and2 (and2 (and2 (and2 (and2 (and2 (and2 (and2 (and2 (and2 (and2 (and2 (and2 (and2 (causalAll_j00) closedP01) closedP02) causalAll_j03) causalAll_j04) causalAll_j05) closedP06) causalAll_j07) closedP08) causalAll_j09) causalAll_j10) causalAll_j11) causalAll_j12) causalAll_j13) causalAll_j14) causalAll_j15) causalAll_j16) causalAll_j17) causalAll_j18) causalAll_j19) causalAll_j20) causalAll_j21) causalAll_j22) causalAll_j23) closedP24) closedP25) causalAll_j26) causalAll_j27) causalAll_j28) causalAll_j29) causalAll_j30) causalAll_j31

theorem causalAll_holds : Rows.CausalAllSaid :=
  OpenClaim.holds_of_wide 3 Tryz.f3 rfl rfl rfl rfl rfl rfl rfl ⟨rfl, rfl, rfl, rfl, rfl⟩ rfl rfl rfl rfl rfl (by kernel_rfl) Tryz.func3 causalAll_closed
    (of_decide_eq_true (by kernel_rfl)) (by unfold Func.isWrapper; first | (rw [if_pos (by decide +kernel)]; kernel_rfl) | (rw [if_neg (by decide +kernel)]; exact ⟨rfl, rfl⟩))
    (fun os started H enc _ => causalAll_lifted os started H enc)
end Go.Proofs.YtmphgnjodangcaaGreat
