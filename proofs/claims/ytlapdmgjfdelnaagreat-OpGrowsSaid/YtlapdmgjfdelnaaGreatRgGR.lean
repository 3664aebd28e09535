/- The law OpGrows returns true at every input, and leaves its arguments as they were. No condition. -/
import Derived.Test.YtlapdmgjfdelnaaGreatRg12
namespace Go.Proofs.YtlapdmgjfdelnaaGreat
open Go.ChangeShapes Go.WideShapes Go.ChangeAt Go.RowKit
set_option maxRecDepth 100000

theorem opGrows_lifted (os : Os) (started : os.Started) (H : Type) (enc : TypeId × Value → H) :
    ReturnsInHanded {} Tryz.checked os 7 .any (Rows.opGrowsSpec.pre6 enc Tryz.prog Tryz.f7 Rows.opGrowsRow.domain false) (Rows.opGrowsSpec.post enc Tryz.prog Tryz.f7 false true false false) := by
  refine returnsInHanded_of_change_sized (C := Tryz.checked) own started (by kernel_rfl) Tryz.func7
    (ChangeSpec.witness6 (enc := enc) (C := Tryz.checked) false ⟨#[], #[.slice none 0 0], []⟩ 8 (by kernel_rfl) (by kernel_rfl) (by kernel_rfl) (by kernel_rfl)) ?_
  intro W base args ds gs before hval0 hW _ hsz0 _
  have hsz : (DataW.weightsEach Tryz.prog (Tryz.f7.params.toList ++ Rows.opGrowsSpec.plain.varTypes Tryz.prog) (ds ++ gs)).all (· ≤ reachBytes) = true := hsz0
  clear hsz0
  have hval : ∀ (j : Nat) t v, Tryz.f7.params[j]? = some t → args[j]? = some v → Value.okWide Tryz.prog W .any base t v := hval0
  have hW' := hW
  obtain ⟨p, q, hA0, hV, rfl, _, _⟩ := hW
  have hA : DataW.TrodAll enc Tryz.prog W 0 (fun _ => true) true Tryz.f7.params.toList args.toList ds p := hA0
  rw [Tryz.params7] at hA hval hsz
  have hAll := hA
  have hlt : ∀ x ∈ p, x.block < W.heap.size := fun x hx => hW'.lt x (List.mem_append_left _ hx)
  obtain ⟨v0, d0, rfl, rfl, h0⟩ := trodAll_one hA
  obtain ⟨rfl, rfl⟩ := trodVars_none hV
  clear hA0 hval0
  simp only [List.append_nil] at hW'
  obtain ⟨l0, hl0⟩ := acts_arg (hval 0 57 v0 rfl rfl) h0 (fun m hm => by
    have := List.all_eq_true.1 hsz m (DataW.weights_mem_each (j := 0) (t := 57) (d := d0) rfl rfl m hm)
    simpa using this)
  refine (lawGR_any l0 W v0 hl0).mono fun e W' ⟨he, hb⟩ => ?_
  subst he
  have hargs := trodAll_below laidOut _ _ _ _ (fun t ht => by simp at ht; subst ht; exact okActs) hAll hb hlt
  exact ⟨_, rfl, _, _, _, [], _, [], hW', trodAll_mk1 (shut_bool Tryz.underlying4 _), hargs, rfl, hb.frame _, fun h => by cases h⟩

theorem opGrows_j00 : (Rows.opGrowsRow.wf (OpenSpec.ofChange Rows.opGrowsSpec)) = true := by kernel_rfl
theorem opGrows_j03 : (Tryz.f7.params.all (Tryz.pinned.checked.prog.readableRec ·)) = true := by kernel_rfl
theorem opGrows_j04 : (namedTie Tryz.pinned.checked.prog Rows.opGrowsRow.named Rows.opGrowsSpec.vars) = true := by kernel_rfl
theorem opGrows_j05 : ((Rows.opGrowsRow.stops == [])) = true := by kernel_rfl
theorem opGrows_j07 : ((Rows.opGrowsRow.knobs == [])) = true := by kernel_rfl
theorem opGrows_j09 : ((Rows.opGrowsRow.inPlace == Tryz.pinned.checked.prog.inPlace 7)) = true := by kernel_rfl
theorem opGrows_j10 : ((Rows.opGrowsRow.unfollowed == Tryz.pinned.checked.prog.unfollowed 7)) = true := by kernel_rfl
theorem opGrows_j11 : ((Rows.opGrowsRow.recurses == Tryz.pinned.checked.prog.recurses 7)) = true := by kernel_rfl
theorem opGrows_j12 : ((Rows.opGrowsRow.named == Tryz.pinned.checked.prog.varsNamed 7)) = true := by kernel_rfl
theorem opGrows_j13 : ((Rows.opGrowsRow.maps == (Tryz.f7.params.toList ++ Rows.opGrowsSpec.plain.varTypes Tryz.pinned.checked.prog).any (Tryz.pinned.checked.prog.mapsRec ·))) = true := by kernel_rfl
theorem opGrows_j14 : ((Rows.opGrowsRow.ifaces == (Tryz.f7.params.toList ++ Rows.opGrowsSpec.plain.varTypes Tryz.pinned.checked.prog).any (Tryz.pinned.checked.prog.ifacesRec ·))) = true := by kernel_rfl
theorem opGrows_j15 : ((Rows.opGrowsRow.mapsOut == Tryz.pinned.checked.prog.mapsAmong Tryz.f7.resultTypes.toList)) = true := by kernel_rfl
theorem opGrows_j16 : ((Rows.opGrowsRow.loops == (Tryz.f7.params.toList ++ Rows.opGrowsSpec.plain.varTypes Tryz.pinned.checked.prog).any (Tryz.pinned.checked.prog.loopsFrom ·))) = true := by kernel_rfl
theorem opGrows_j17 : ((Rows.opGrowsRow.wideKeys == (Tryz.f7.params.toList ++ Rows.opGrowsSpec.plain.varTypes Tryz.pinned.checked.prog ++ Tryz.f7.resultTypes.toList).any (Tryz.pinned.checked.prog.wideKeysFrom ·))) = true := by kernel_rfl
theorem opGrows_j18 : (Rows.opGrowsSpec.vars.all (Tryz.pinned.checked.prog.varReadable ·)) = true := by kernel_rfl
theorem opGrows_j19 : (Tryz.f7.resultTypes.all (fun t => Tryz.pinned.checked.prog.readableRec t && decide (t < Tryz.pinned.checked.prog.types.size))) = true := by kernel_rfl
theorem opGrows_j20 : ((Rows.opGrowsRow.ifacesOut == Tryz.f7.resultTypes.toList.any (Tryz.pinned.checked.prog.ifacesRec ·))) = true := by kernel_rfl
theorem opGrows_j21 : ((Rows.opGrowsRow.loopsOut == Tryz.f7.resultTypes.toList.any (Tryz.pinned.checked.prog.loopsFrom ·))) = true := by kernel_rfl
theorem opGrows_j22 : ((Rows.opGrowsRow.plainKeys == Tryz.pinned.checked.prog.plainKeys)) = true := by kernel_rfl
theorem opGrows_j23 : (Rows.opGrowsRow.shortTexts.isNone) = true := by kernel_rfl
theorem opGrows_j26 : ((Rows.opGrowsRow.lifted == Tryz.pinned.checked.prog.liftsFinal)) = true := by rw [headFinal]; kernel_rfl
theorem opGrows_j27 : ((Tryz.pinned.checked.prog.make == some Rows.opGrowsRow.make)) = true := by rw [headMake]; kernel_rfl
theorem opGrows_j28 : ((Rows.opGrowsRow.kinds == (if Rows.opGrowsRow.domain.isEmpty then [] else Tryz.f7.params.toList.map fun t => match Tryz.pinned.checked.prog.underlying t with | some (.int k) => some k | _ => none))) = true := by kernel_rfl
theorem opGrows_j29 : ((Rows.opGrowsRow.pinned == Rows.opGrowsRow.pinnedBy)) = true := by kernel_rfl
theorem opGrows_j30 : ((Rows.opGrowsRow.veiled == (Tryz.f7.params.toList ++ Rows.opGrowsSpec.plain.varTypes Tryz.pinned.checked.prog ++ Tryz.f7.resultTypes.toList).any (Tryz.pinned.checked.prog.veiledRec ·))) = true := by kernel_rfl
theorem opGrows_j31 : (Rows.opGrowsRow.veiledFits Tryz.pinned.checked.prog Tryz.f7.params.toList (Tryz.f7.params.toList ++ Rows.opGrowsSpec.plain.varTypes Tryz.pinned.checked.prog ++ Tryz.f7.resultTypes.toList)) = true := by kernel_rfl
theorem opGrows_closed : joinedFacts Tryz.pinned.checked.prog 7 Tryz.f7 Rows.opGrowsSpec Rows.opGrowsRow = true :=
  and2 (and2 (and2 (and2 (and2 (and2 (and2 (and2 (and2 (and2 (and2 (and2 (and2 (and2 (and2 (and2 (and2 (and2 (and2 (and2 (and2 (and2 (and2 (and2 (and2 (and2 (and2 (and2 (and2 (and2 (and2 (opGrows_j00) closedP01) closedP02) opGrows_j03) opGrows_j04) opGrows_j05) closedP06) opGrows_j07) closedP08) opGrows_j09) opGrows_j10) opGrows_j11) opGrows_j12) opGrows_j13) opGrows_j14) opGrows_j15) opGrows_j16) opGrows_j17) opGrows_j18) opGrows_j19) opGrows_j20) opGrows_j21) opGrows_j22) opGrows_j23) closedP24) closedP25) opGrows_j26) opGrows_j27) opGrows_j28) opGrows_j29) opGrows_j30) opGrows_j31

theorem opGrows_holds : Rows.OpGrowsSaid :=
  OpenClaim.holds_of_wide 7 Tryz.f7 rfl rfl rfl rfl rfl rfl rfl ⟨rfl, rfl, rfl, rfl, rfl⟩ rfl rfl rfl rfl rfl (by kernel_rfl) Tryz.func7 opGrows_closed
    (of_decide_eq_true (by kernel_rfl)) (by unfold Func.isWrapper; first | (rw [if_pos (by decide +kernel)]; kernel_rfl) | (rw [if_neg (by decide +kernel)]; exact ⟨rfl, rfl⟩))
    (fun os started H enc _ => opGrows_lifted os started H enc)
end Go.Proofs.YtlapdmgjfdelnaaGreat
