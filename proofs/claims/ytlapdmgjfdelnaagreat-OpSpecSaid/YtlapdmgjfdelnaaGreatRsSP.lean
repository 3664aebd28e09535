/- The law OpSpec returns true at every input, and leaves its arguments as they were. No condition. -/
import Derived.Test.YtlapdmgjfdelnaaGreatRs12
namespace Go.Proofs.YtlapdmgjfdelnaaGreat
open Go.ChangeShapes Go.WideShapes Go.ChangeAt Go.RowKit
set_option maxRecDepth 100000

theorem opSpec_lifted (os : Os) (started : os.Started) (H : Type) (enc : TypeId × Value → H) :
    ReturnsInHanded {} Tryz.checked os 6 .any (Rows.opSpecSpec.pre6 enc Tryz.prog Tryz.f6 Rows.opSpecRow.domain false) (Rows.opSpecSpec.post enc Tryz.prog Tryz.f6 false true false false) := by
  refine returnsInHanded_of_change_sized (C := Tryz.checked) own started (by kernel_rfl) Tryz.func6
    (ChangeSpec.witness6 (enc := enc) (C := Tryz.checked) false ⟨#[], #[.slice none 0 0, .slice none 0 0], []⟩ 8 (by kernel_rfl) (by kernel_rfl) (by kernel_rfl) (by kernel_rfl)) ?_
  intro W base args ds gs before hval0 hW _ hsz0 _
  have hsz : (DataW.weightsEach Tryz.prog (Tryz.f6.params.toList ++ Rows.opSpecSpec.plain.varTypes Tryz.prog) (ds ++ gs)).all (· ≤ reachBytes) = true := hsz0
  clear hsz0
  have hval : ∀ (j : Nat) t v, Tryz.f6.params[j]? = some t → args[j]? = some v → Value.okWide Tryz.prog W .any base t v := hval0
  have hW' := hW
  obtain ⟨p, q, hA0, hV, rfl, _, _⟩ := hW
  have hA : DataW.TrodAll enc Tryz.prog W 0 (fun _ => true) true Tryz.f6.params.toList args.toList ds p := hA0
  rw [Tryz.params6] at hA hval hsz
  have hAll := hA
  have hlt : ∀ x ∈ p, x.block < W.heap.size := fun x hx => hW'.lt x (List.mem_append_left _ hx)
  obtain ⟨v0, v1, d0, d1, p0, p1, rfl, rfl, rfl, h0, h1⟩ := trodAll_two hA
  obtain ⟨rfl, rfl⟩ := trodVars_none hV
  clear hA0 hval0
  simp only [List.append_nil] at hW'
  obtain ⟨l0, hl0⟩ := acts_arg (hval 0 57 v0 rfl rfl) h0 (fun m hm => by
    have := List.all_eq_true.1 hsz m (DataW.weights_mem_each (j := 0) (t := 57) (d := d0) rfl rfl m hm)
    simpa using this)
  obtain ⟨l1, hl1⟩ := strs_arg (hval 1 30 v1 rfl rfl) h1 (fun m hm => by
    have := List.all_eq_true.1 hsz m (DataW.weights_mem_each (j := 1) (t := 30) (d := d1) rfl rfl m hm)
    simpa using this)
  refine (lawSP_any l0 l1 W v0 v1 hl0 hl1).mono fun e W' ⟨he, hb⟩ => ?_
  subst he
  have hargs := trodAll_below laidOut _ _ _ _ (fun t ht => by simp at ht; rcases ht with rfl | rfl <;> first | exact okActs | exact okStrings) hAll hb hlt
  exact ⟨_, rfl, _, _, _, [], _, [], hW', trodAll_mk1 (shut_bool Tryz.underlying4 _), hargs, rfl, hb.frame _, fun h => by cases h⟩

theorem opSpec_j00 : (Rows.opSpecRow.wf (OpenSpec.ofChange Rows.opSpecSpec)) = true := by kernel_rfl
theorem opSpec_j03 : (Tryz.f6.params.all (Tryz.pinned.checked.prog.readableRec ·)) = true := by kernel_rfl
theorem opSpec_j04 : (namedTie Tryz.pinned.checked.prog Rows.opSpecRow.named Rows.opSpecSpec.vars) = true := by kernel_rfl
theorem opSpec_j05 : ((Rows.opSpecRow.stops == [])) = true := by kernel_rfl
theorem opSpec_j07 : ((Rows.opSpecRow.knobs == [])) = true := by kernel_rfl
theorem opSpec_j09 : ((Rows.opSpecRow.inPlace == Tryz.pinned.checked.prog.inPlace 6)) = true := by kernel_rfl
theorem opSpec_j10 : ((Rows.opSpecRow.unfollowed == Tryz.pinned.checked.prog.unfollowed 6)) = true := by kernel_rfl
theorem opSpec_j11 : ((Rows.opSpecRow.recurses == Tryz.pinned.checked.prog.recurses 6)) = true := by kernel_rfl
theorem opSpec_j12 : ((Rows.opSpecRow.named == Tryz.pinned.checked.prog.varsNamed 6)) = true := by kernel_rfl
theorem opSpec_j13 : ((Rows.opSpecRow.maps == (Tryz.f6.params.toList ++ Rows.opSpecSpec.plain.varTypes Tryz.pinned.checked.prog).any (Tryz.pinned.checked.prog.mapsRec ·))) = true := by kernel_rfl
theorem opSpec_j14 : ((Rows.opSpecRow.ifaces == (Tryz.f6.params.toList ++ Rows.opSpecSpec.plain.varTypes Tryz.pinned.checked.prog).any (Tryz.pinned.checked.prog.ifacesRec ·))) = true := by kernel_rfl
theorem opSpec_j15 : ((Rows.opSpecRow.mapsOut == Tryz.pinned.checked.prog.mapsAmong Tryz.f6.resultTypes.toList)) = true := by kernel_rfl
theorem opSpec_j16 : ((Rows.opSpecRow.loops == (Tryz.f6.params.toList ++ Rows.opSpecSpec.plain.varTypes Tryz.pinned.checked.prog).any (Tryz.pinned.checked.prog.loopsFrom ·))) = true := by kernel_rfl
theorem opSpec_j17 : ((Rows.opSpecRow.wideKeys == (Tryz.f6.params.toList ++ Rows.opSpecSpec.plain.varTypes Tryz.pinned.checked.prog ++ Tryz.f6.resultTypes.toList).any (Tryz.pinned.checked.prog.wideKeysFrom ·))) = true := by kernel_rfl
theorem opSpec_j18 : (Rows.opSpecSpec.vars.all (Tryz.pinned.checked.prog.varReadable ·)) = true := by kernel_rfl
theorem opSpec_j19 : (Tryz.f6.resultTypes.all (fun t => Tryz.pinned.checked.prog.readableRec t && decide (t < Tryz.pinned.checked.prog.types.size))) = true := by kernel_rfl
theorem opSpec_j20 : ((Rows.opSpecRow.ifacesOut == Tryz.f6.resultTypes.toList.any (Tryz.pinned.checked.prog.ifacesRec ·))) = true := by kernel_rfl
theorem opSpec_j21 : ((Rows.opSpecRow.loopsOut == Tryz.f6.resultTypes.toList.any (Tryz.pinned.checked.prog.loopsFrom ·))) = true := by kernel_rfl
theorem opSpec_j22 : ((Rows.opSpecRow.plainKeys == Tryz.pinned.checked.prog.plainKeys)) = true := by kernel_rfl
theorem opSpec_j23 : (Rows.opSpecRow.shortTexts.isNone) = true := by kernel_rfl
theorem opSpec_j26 : ((Rows.opSpecRow.lifted == Tryz.pinned.checked.prog.liftsFinal)) = true := by rw [headFinal]; kernel_rfl
theorem opSpec_j27 : ((Tryz.pinned.checked.prog.make == some Rows.opSpecRow.make)) = true := by rw [headMake]; kernel_rfl
theorem opSpec_j28 : ((Rows.opSpecRow.kinds == (if Rows.opSpecRow.domain.isEmpty then [] else Tryz.f6.params.toList.map fun t => match Tryz.pinned.checked.prog.underlying t with | some (.int k) => some k | _ => none))) = true := by kernel_rfl
theorem opSpec_j29 : ((Rows.opSpecRow.pinned == Rows.opSpecRow.pinnedBy)) = true := by kernel_rfl
theorem opSpec_j30 : ((Rows.opSpecRow.veiled == (Tryz.f6.params.toList ++ Rows.opSpecSpec.plain.varTypes Tryz.pinned.checked.prog ++ Tryz.f6.resultTypes.toList).any (Tryz.pinned.checked.prog.veiledRec ·))) = true := by kernel_rfl
theorem opSpec_j31 : (Rows.opSpecRow.veiledFits Tryz.pinned.checked.prog Tryz.f6.params.toList (Tryz.f6.params.toList ++ Rows.opSpecSpec.plain.varTypes Tryz.pinned.checked.prog ++ Tryz.f6.resultTypes.toList)) = true := by kernel_rfl
theorem opSpec_closed : joinedFacts Tryz.pinned.checked.prog 6 Tryz.f6 Rows.opSpecSpec Rows.opSpecRow = true :=
  and2 (and2 (and2 (and2 (and2 (and2 (and2 (and2 (and2 (and2 (and2 (and2 (and2 (and2 (and2 (and2 (and2 (and2 (and2 (and2 (and2 (and2 (and2 (and2 (and2 (and2 (and2 (and2 (and2 (and2 (and2 (opSpec_j00) closedP01) closedP02) opSpec_j03) opSpec_j04) opSpec_j05) closedP06) opSpec_j07) closedP08) opSpec_j09) opSpec_j10) opSpec_j11) opSpec_j12) opSpec_j13) opSpec_j14) opSpec_j15) opSpec_j16) opSpec_j17) opSpec_j18) opSpec_j19) opSpec_j20) opSpec_j21) opSpec_j22) opSpec_j23) closedP24) closedP25) opSpec_j26) opSpec_j27) opSpec_j28) opSpec_j29) opSpec_j30) opSpec_j31

theorem opSpec_holds : Rows.OpSpecSaid :=
  OpenClaim.holds_of_wide 6 Tryz.f6 rfl rfl rfl rfl rfl rfl rfl ⟨rfl, rfl, rfl, rfl, rfl⟩ rfl rfl rfl rfl rfl (by kernel_rfl) Tryz.func6 opSpec_closed
    (of_decide_eq_true (by kernel_rfl)) (by unfold Func.isWrapper; first | (rw [if_pos (by decide +kernel)]; kernel_rfl) | (rw [if_neg (by decide +kernel)]; exact ⟨rfl, rfl⟩))
    (fun os started H enc _ => opSpec_lifted os started H enc)
end Go.Proofs.YtlapdmgjfdelnaaGreat
