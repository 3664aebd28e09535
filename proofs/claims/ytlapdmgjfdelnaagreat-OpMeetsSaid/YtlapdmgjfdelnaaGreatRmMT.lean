/- The law OpMeets returns true at every input, and leaves its arguments as they were. No condition. -/
import Derived.Test.YtlapdmgjfdelnaaGreatRm12
namespace Go.Proofs.YtlapdmgjfdelnaaGreat
open Go.ChangeShapes Go.WideShapes Go.ChangeAt Go.RowKit
set_option maxRecDepth 100000

theorem opMeets_lifted (os : Os) (started : os.Started) (H : Type) (enc : TypeId × Value → H) :
    ReturnsInHanded {} Tryz.checked os 8 .any (Rows.opMeetsSpec.pre6 enc Tryz.prog Tryz.f8 Rows.opMeetsRow.domain false) (Rows.opMeetsSpec.post enc Tryz.prog Tryz.f8 false true false false) := by
  refine returnsInHanded_of_change_sized (C := Tryz.checked) own started (by kernel_rfl) Tryz.func8
    (ChangeSpec.witness6 (enc := enc) (C := Tryz.checked) false ⟨#[], #[.slice none 0 0], []⟩ 8 (by kernel_rfl) (by kernel_rfl) (by kernel_rfl) (by kernel_rfl)) ?_
  intro W base args ds gs before hval0 hW _ hsz0 _
  have hsz : (DataW.weightsEach Tryz.prog (Tryz.f8.params.toList ++ Rows.opMeetsSpec.plain.varTypes Tryz.prog) (ds ++ gs)).all (· ≤ reachBytes) = true := hsz0
  clear hsz0
  have hval : ∀ (j : Nat) t v, Tryz.f8.params[j]? = some t → args[j]? = some v → Value.okWide Tryz.prog W .any base t v := hval0
  have hW' := hW
  obtain ⟨p, q, hA0, hV, rfl, _, _⟩ := hW
  have hA : DataW.TrodAll enc Tryz.prog W 0 (fun _ => true) true Tryz.f8.params.toList args.toList ds p := hA0
  rw [Tryz.params8] at hA hval hsz
  have hAll := hA
  have hlt : ∀ x ∈ p, x.block < W.heap.size := fun x hx => hW'.lt x (List.mem_append_left _ hx)
  obtain ⟨v0, d0, rfl, rfl, h0⟩ := trodAll_one hA
  obtain ⟨rfl, rfl⟩ := trodVars_none hV
  clear hA0 hval0
  simp only [List.append_nil] at hW'
  obtain ⟨l0, hl0⟩ := acts_arg (hval 0 57 v0 rfl rfl) h0 (fun m hm => by
    have := List.all_eq_true.1 hsz m (DataW.weights_mem_each (j := 0) (t := 57) (d := d0) rfl rfl m hm)
    simpa using this)
  refine (lawMT_any l0 W v0 hl0).mono fun e W' ⟨he, hb⟩ => ?_
  subst he
  have hargs := trodAll_below laidOut _ _ _ _ (fun t ht => by simp at ht; subst ht; exact okActs) hAll hb hlt
  exact ⟨_, rfl, _, _, _, [], _, [], hW', trodAll_mk1 (shut_bool Tryz.underlying4 _), hargs, rfl, hb.frame _, fun h => by cases h⟩

theorem opMeets_j00 : (Rows.opMeetsRow.wf (OpenSpec.ofChange Rows.opMeetsSpec)) = true := by kernel_rfl
theorem opMeets_j03 : (Tryz.f8.params.all (Tryz.pinned.checked.prog.readableRec ·)) = true := by kernel_rfl
theorem opMeets_j04 : (namedTie Tryz.pinned.checked.prog Rows.opMeetsRow.named Rows.opMeetsSpec.vars) = true := by kernel_rfl
theorem opMeets_j05 : ((Rows.opMeetsRow.stops == [])) = true := by kernel_rfl
theorem opMeets_j07 : ((Rows.opMeetsRow.knobs == [])) = true := by kernel_rfl
theorem opMeets_j09 : ((Rows.opMeetsRow.inPlace == Tryz.pinned.checked.prog.inPlace 8)) = true := by kernel_rfl
theorem opMeets_j10 : ((Rows.opMeetsRow.unfollowed == Tryz.pinned.checked.prog.unfollowed 8)) = true := by kernel_rfl
theorem opMeets_j11 : ((Rows.opMeetsRow.recurses == Tryz.pinned.checked.prog.recurses 8)) = true := by kernel_rfl
theorem opMeets_j12 : ((Rows.opMeetsRow.named == Tryz.pinned.checked.prog.varsNamed 8)) = true := by kernel_rfl
theorem opMeets_j13 : ((Rows.opMeetsRow.maps == (Tryz.f8.params.toList ++ Rows.opMeetsSpec.plain.varTypes Tryz.pinned.checked.prog).any (Tryz.pinned.checked.prog.mapsRec ·))) = true := by kernel_rfl
theorem opMeets_j14 : ((Rows.opMeetsRow.ifaces == (Tryz.f8.params.toList ++ Rows.opMeetsSpec.plain.varTypes Tryz.pinned.checked.prog).any (Tryz.pinned.checked.prog.ifacesRec ·))) = true := by kernel_rfl
theorem opMeets_j15 : ((Rows.opMeetsRow.mapsOut == Tryz.pinned.checked.prog.mapsAmong Tryz.f8.resultTypes.toList)) = true := by kernel_rfl
theorem opMeets_j16 : ((Rows.opMeetsRow.loops == (Tryz.f8.params.toList ++ Rows.opMeetsSpec.plain.varTypes Tryz.pinned.checked.prog).any (Tryz.pinned.checked.prog.loopsFrom ·))) = true := by kernel_rfl
theorem opMeets_j17 : ((Rows.opMeetsRow.wideKeys == (Tryz.f8.params.toList ++ Rows.opMeetsSpec.plain.varTypes Tryz.pinned.checked.prog ++ Tryz.f8.resultTypes.toList).any (Tryz.pinned.checked.prog.wideKeysFrom ·))) = true := by kernel_rfl
theorem opMeets_j18 : (Rows.opMeetsSpec.vars.all (Tryz.pinned.checked.prog.varReadable ·)) = true := by kernel_rfl
theorem opMeets_j19 : (Tryz.f8.resultTypes.all (fun t => Tryz.pinned.checked.prog.readableRec t && decide (t < Tryz.pinned.checked.prog.types.size))) = true := by kernel_rfl
theorem opMeets_j20 : ((Rows.opMeetsRow.ifacesOut == Tryz.f8.resultTypes.toList.any (Tryz.pinned.checked.prog.ifacesRec ·))) = true := by kernel_rfl
theorem opMeets_j21 : ((Rows.opMeetsRow.loopsOut == Tryz.f8.resultTypes.toList.any (Tryz.pinned.checked.prog.loopsFrom ·))) = true := by kernel_rfl
theorem opMeets_j22 : ((Rows.opMeetsRow.plainKeys == Tryz.pinned.checked.prog.plainKeys)) = true := by kernel_rfl
theorem opMeets_j23 : (Rows.opMeetsRow.shortTexts.isNone) = true := by kernel_rfl
theorem opMeets_j26 : ((Rows.opMeetsRow.lifted == Tryz.pinned.checked.prog.liftsFinal)) = true := by rw [headFinal]; kernel_rfl
theorem opMeets_j27 : ((Tryz.pinned.checked.prog.make == some Rows.opMeetsRow.make)) = true := by rw [headMake]; kernel_rfl
theorem opMeets_j28 : ((Rows.opMeetsRow.kinds == (if Rows.opMeetsRow.domain.isEmpty then [] else Tryz.f8.params.toList.map fun t => match Tryz.pinned.checked.prog.underlying t with | some (.int k) => some k | _ => none))) = true := by kernel_rfl
theorem opMeets_j29 : ((Rows.opMeetsRow.pinned == Rows.opMeetsRow.pinnedBy)) = true := by kernel_rfl
theorem opMeets_j30 : ((Rows.opMeetsRow.veiled == (Tryz.f8.params.toList ++ Rows.opMeetsSpec.plain.varTypes Tryz.pinned.checked.prog ++ Tryz.f8.resultTypes.toList).any (Tryz.pinned.checked.prog.veiledRec ·))) = true := by kernel_rfl
theorem opMeets_j31 : (Rows.opMeetsRow.veiledFits Tryz.pinned.checked.prog Tryz.f8.params.toList (Tryz.f8.params.toList ++ Rows.opMeetsSpec.plain.varTypes Tryz.pinned.checked.prog ++ Tryz.f8.resultTypes.toList)) = true := by kernel_rfl
theorem opMeets_closed : joinedFacts Tryz.pinned.checked.prog 8 Tryz.f8 Rows.opMeetsSpec Rows.opMeetsRow = true :=
  and2 (and2 (and2 (and2 (and2 (and2 (and2 (and2 (and2 (and2 (and2 (and2 (and2 (and2 (and2 (and2 (and2 (and2 (and2 (and2 (and2 (and2 (and2 (and2 (and2 (and2 (and2 (and2 (and2 (and2 (and2 (opMeets_j00) closedP01) closedP02) opMeets_j03) opMeets_j04) opMeets_j05) closedP06) opMeets_j07) closedP08) opMeets_j09) opMeets_j10) opMeets_j11) opMeets_j12) opMeets_j13) opMeets_j14) opMeets_j15) opMeets_j16) opMeets_j17) opMeets_j18) opMeets_j19) opMeets_j20) opMeets_j21) opMeets_j22) opMeets_j23) closedP24) closedP25) opMeets_j26) opMeets_j27) opMeets_j28) opMeets_j29) opMeets_j30) opMeets_j31

theorem opMeets_holds : Rows.OpMeetsSaid :=
  OpenClaim.holds_of_wide 8 Tryz.f8 rfl rfl rfl rfl rfl rfl rfl ⟨rfl, rfl, rfl, rfl, rfl⟩ rfl rfl rfl rfl rfl (by kernel_rfl) Tryz.func8 opMeets_closed
    (of_decide_eq_true (by kernel_rfl)) (by unfold Func.isWrapper; first | (rw [if_pos (by decide +kernel)]; kernel_rfl) | (rw [if_neg (by decide +kernel)]; exact ⟨rfl, rfl⟩))
    (fun os started H enc _ => opMeets_lifted os started H enc)
end Go.Proofs.YtlapdmgjfdelnaaGreat
