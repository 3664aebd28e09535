/- The law OpReads returns true at every input, and leaves its arguments as they were. No condition. -/
import Derived.Test.YtmphgnjodangcaaGreatWa11
namespace Go.Proofs.YtmphgnjodangcaaGreat
open Go.ChangeShapes Go.WideShapes Go.ChangeAt Go.RowKit
set_option maxRecDepth 100000

theorem opReads_lifted (os : Os) (started : os.Started) (H : Type) (enc : TypeId × Value → H) :
    ReturnsInHanded {} Tryz.checked os 13 .any (Rows.opReadsSpec.pre6 enc Tryz.prog Tryz.f13 Rows.opReadsRow.domain false) (Rows.opReadsSpec.post enc Tryz.prog Tryz.f13 false true false false) := by
  refine returnsInHanded_of_change_sized (C := Tryz.checked) own started (by kernel_rfl) Tryz.func13
    (ChangeSpec.witness6 (enc := enc) (C := Tryz.checked) false ⟨#[], #[.agg #[.slice none 0 0, .slice none 0 0], .slice none 0 0], []⟩ 8 (by kernel_rfl) (by kernel_rfl) (by kernel_rfl) (by kernel_rfl)) ?_
  intro W base args ds gs before hval0 hW _ hsz0 _
  have hsz : (DataW.weightsEach Tryz.prog (Tryz.f13.params.toList ++ Rows.opReadsSpec.plain.varTypes Tryz.prog) (ds ++ gs)).all (· ≤ reachBytes) = true := hsz0
  clear hsz0
  have hval : ∀ (j : Nat) t v, Tryz.f13.params[j]? = some t → args[j]? = some v → Value.okWide Tryz.prog W .any base t v := hval0
  have hW' := hW
  obtain ⟨p, q, hA0, hV, rfl, _, _⟩ := hW
  have hA : DataW.TrodAll enc Tryz.prog W 0 (fun _ => true) true Tryz.f13.params.toList args.toList ds p := hA0
  rw [Tryz.params13] at hA hval hsz
  have hAll := hA
  have hlt : ∀ x ∈ p, x.block < W.heap.size := fun x hx => hW'.lt x (List.mem_append_left _ hx)
  obtain ⟨v0, v1, d0, d1, p0, p1, rfl, rfl, rfl, h0, h1⟩ := trodAll_two hA
  obtain ⟨rfl, rfl⟩ := trodVars_none hV
  clear hA0 hval0
  simp only [List.append_nil] at hW'
  obtain ⟨t0, ve0, vk0, rfl, ht0⟩ := tree_arg (hval 0 27 v0 rfl rfl) h0 (fun m hm => by
    have := List.all_eq_true.1 hsz m (DataW.weights_mem_each (j := 0) (t := 27) (d := d0) rfl rfl m hm)
    simpa using this)
  obtain ⟨l1, hl1⟩ := strs_arg (hval 1 39 v1 rfl rfl) h1 (fun m hm => by
    have := List.all_eq_true.1 hsz m (DataW.weights_mem_each (j := 1) (t := 39) (d := d1) rfl rfl m hm)
    simpa using this)
  refine (lawRD_any t0 l1 W ve0 vk0 v1 ht0 hl1).mono fun e W' ⟨he, hb⟩ => ?_
  subst he
  have hargs := trodAll_below laidOut _ _ _ _ (fun t ht => by simp at ht; rcases ht with rfl | rfl <;> first | exact okTree | exact okStrings) hAll hb hlt
  exact ⟨_, rfl, _, _, _, [], _, [], hW', trodAll_mk1 (shut_bool Tryz.underlying4 _), hargs, rfl, hb.frame _, fun h => by cases h⟩

theorem opReads_j00 : (Rows.opReadsRow.wf (OpenSpec.ofChange Rows.opReadsSpec)) = true := by kernel_rfl
theorem opReads_j03 : (Tryz.f13.params.all (Tryz.pinned.checked.prog.readableRec ·)) = true := by kernel_rfl
theorem opReads_j04 : (namedTie Tryz.pinned.checked.prog Rows.opReadsRow.named Rows.opReadsSpec.vars) = true := by kernel_rfl
theorem opReads_j05 : ((Rows.opReadsRow.stops == [])) = true := by kernel_rfl
theorem opReads_j07 : ((Rows.opReadsRow.knobs == [])) = true := by kernel_rfl
theorem opReads_j09 : ((Rows.opReadsRow.inPlace == Tryz.pinned.checked.prog.inPlace 13)) = true := by kernel_rfl
theorem opReads_j10 : ((Rows.opReadsRow.unfollowed == Tryz.pinned.checked.prog.unfollowed 13)) = true := by kernel_rfl
theorem opReads_j11 : ((Rows.opReadsRow.recurses == Tryz.pinned.checked.prog.recurses 13)) = true := by kernel_rfl
theorem opReads_j12 : ((Rows.opReadsRow.named == Tryz.pinned.checked.prog.varsNamed 13)) = true := by kernel_rfl
theorem opReads_j13 : ((Rows.opReadsRow.maps == (Tryz.f13.params.toList ++ Rows.opReadsSpec.plain.varTypes Tryz.pinned.checked.prog).any (Tryz.pinned.checked.prog.mapsRec ·))) = true := by kernel_rfl
theorem opReads_j14 : ((Rows.opReadsRow.ifaces == (Tryz.f13.params.toList ++ Rows.opReadsSpec.plain.varTypes Tryz.pinned.checked.prog).any (Tryz.pinned.checked.prog.ifacesRec ·))) = true := by kernel_rfl
theorem opReads_j15 : ((Rows.opReadsRow.mapsOut == Tryz.pinned.checked.prog.mapsAmong Tryz.f13.resultTypes.toList)) = true := by kernel_rfl
theorem opReads_j16 : ((Rows.opReadsRow.loops == (Tryz.f13.params.toList ++ Rows.opReadsSpec.plain.varTypes Tryz.pinned.checked.prog).any (Tryz.pinned.checked.prog.loopsFrom ·))) = true := by kernel_rfl
theorem opReads_j17 : ((Rows.opReadsRow.wideKeys == (Tryz.f13.params.toList ++ Rows.opReadsSpec.plain.varTypes Tryz.pinned.checked.prog ++ Tryz.f13.resultTypes.toList).any (Tryz.pinned.checked.prog.wideKeysFrom ·))) = true := by kernel_rfl
theorem opReads_j18 : (Rows.opReadsSpec.vars.all (Tryz.pinned.checked.prog.varReadable ·)) = true := by kernel_rfl
theorem opReads_j19 : (Tryz.f13.resultTypes.all (fun t => Tryz.pinned.checked.prog.readableRec t && decide (t < Tryz.pinned.checked.prog.types.size))) = true := by kernel_rfl
theorem opReads_j20 : ((Rows.opReadsRow.ifacesOut == Tryz.f13.resultTypes.toList.any (Tryz.pinned.checked.prog.ifacesRec ·))) = true := by kernel_rfl
theorem opReads_j21 : ((Rows.opReadsRow.loopsOut == Tryz.f13.resultTypes.toList.any (Tryz.pinned.checked.prog.loopsFrom ·))) = true := by kernel_rfl
theorem opReads_j22 : ((Rows.opReadsRow.plainKeys == Tryz.pinned.checked.prog.plainKeys)) = true := by kernel_rfl
theorem opReads_j23 : (Rows.opReadsRow.shortTexts.isNone) = true := by kernel_rfl
theorem opReads_j26 : ((Rows.opReadsRow.lifted == Tryz.pinned.checked.prog.liftsFinal)) = true := by rw [headFinal]; kernel_rfl
theorem opReads_j27 : ((Tryz.pinned.checked.prog.make == some Rows.opReadsRow.make)) = true := by rw [headMake]; kernel_rfl
theorem opReads_j28 : ((Rows.opReadsRow.kinds == (if Rows.opReadsRow.domain.isEmpty then [] else Tryz.f13.params.toList.map fun t => match Tryz.pinned.checked.prog.underlying t with | some (.int k) => some k | _ => none))) = true := by kernel_rfl
theorem opReads_j29 : ((Rows.opReadsRow.pinned == Rows.opReadsRow.pinnedBy)) = true := by kernel_rfl
theorem opReads_j30 : ((Rows.opReadsRow.veiled == (Tryz.f13.params.toList ++ Rows.opReadsSpec.plain.varTypes Tryz.pinned.checked.prog ++ Tryz.f13.resultTypes.toList).any (Tryz.pinned.checked.prog.veiledRec ·))) = true := by kernel_rfl
theorem opReads_j31 : (Rows.opReadsRow.veiledFits Tryz.pinned.checked.prog Tryz.f13.params.toList (Tryz.f13.params.toList ++ Rows.opReadsSpec.plain.varTypes Tryz.pinned.checked.prog ++ Tryz.f13.resultTypes.toList)) = true := by kernel_rfl
theorem opReads_closed : joinedFacts Tryz.pinned.checked.prog 13 Tryz.f13 Rows.opReadsSpec Rows.opReadsRow = true :=
  and2 (and2 (and2 (and2 (and2 (and2 (and2 (and2 (and2 (and2 (and2 (and2 (and2 (and2 (and2 (and2 (and2 (and2 (and2 (and2 (and2 (and2 (and2 (and2 (and2 (and2 (and2 (and2 (and2 (and2 (and2 (opReads_j00) closedP01) closedP02) opReads_j03) opReads_j04) opReads_j05) closedP06) opReads_j07) closedP08) opReads_j09) opReads_j10) opReads_j11) opReads_j12) opReads_j13) opReads_j14) opReads_j15) opReads_j16) opReads_j17) opReads_j18) opReads_j19) opReads_j20) opReads_j21) opReads_j22) opReads_j23) closedP24) closedP25) opReads_j26) opReads_j27) opReads_j28) opReads_j29) opReads_j30) opReads_j31

theorem opReads_holds : Rows.OpReadsSaid :=
  OpenClaim.holds_of_wide 13 Tryz.f13 rfl rfl rfl rfl rfl rfl rfl ⟨rfl, rfl, rfl, rfl, rfl⟩ rfl rfl rfl rfl rfl (by kernel_rfl) Tryz.func13 opReads_closed
    (of_decide_eq_true (by kernel_rfl)) (by unfold Func.isWrapper; first | (rw [if_pos (by decide +kernel)]; kernel_rfl) | (rw [if_neg (by decide +kernel)]; exact ⟨rfl, rfl⟩))
    (fun os started H enc _ => opReads_lifted os started H enc)
end Go.Proofs.YtmphgnjodangcaaGreat
