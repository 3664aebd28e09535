/- The law OpApplies returns true at every input, and leaves its arguments as they were. No condition. -/
import Derived.Test.YtmphgnjodangcaaGreatWa11
namespace Go.Proofs.YtmphgnjodangcaaGreat
open Go.ChangeShapes Go.WideShapes Go.ChangeAt Go.RowKit
set_option maxRecDepth 100000

theorem opApplies_lifted (os : Os) (started : os.Started) (H : Type) (enc : TypeId × Value → H) :
    ReturnsInHanded {} Tryz.checked os 12 .any (Rows.opAppliesSpec.pre6 enc Tryz.prog Tryz.f12 Rows.opAppliesRow.domain false) (Rows.opAppliesSpec.post enc Tryz.prog Tryz.f12 false true false false) := by
  refine returnsInHanded_of_change_sized (C := Tryz.checked) own started (by kernel_rfl) Tryz.func12
    (ChangeSpec.witness6 (enc := enc) (C := Tryz.checked) false ⟨#[], #[.agg #[.slice none 0 0, .slice none 0 0], .agg #[.slice none 0 0, .int .i64 0, .string ByteArray.empty, .int .i64 0], .agg #[.int .i64 0, .int .i64 0]], []⟩ 8 (by kernel_rfl) (by kernel_rfl) (by kernel_rfl) (by kernel_rfl)) ?_
  intro W base args ds gs before hval0 hW _ hsz0 _
  have hsz : (DataW.weightsEach Tryz.prog (Tryz.f12.params.toList ++ Rows.opAppliesSpec.plain.varTypes Tryz.prog) (ds ++ gs)).all (· ≤ reachBytes) = true := hsz0
  clear hsz0
  have hval : ∀ (j : Nat) t v, Tryz.f12.params[j]? = some t → args[j]? = some v → Value.okWide Tryz.prog W .any base t v := hval0
  have hW' := hW
  obtain ⟨p, q, hA0, hV, rfl, _, _⟩ := hW
  have hA : DataW.TrodAll enc Tryz.prog W 0 (fun _ => true) true Tryz.f12.params.toList args.toList ds p := hA0
  rw [Tryz.params12] at hA hval hsz
  have hAll := hA
  have hlt : ∀ x ∈ p, x.block < W.heap.size := fun x hx => hW'.lt x (List.mem_append_left _ hx)
  obtain ⟨v0, v1, v2, d0, d1, d2, p0, p1, p2, rfl, rfl, rfl, h0, h1, h2⟩ := trodAll_three hA
  obtain ⟨rfl, rfl⟩ := trodVars_none hV
  clear hA0 hval0
  simp only [List.append_nil] at hW'
  obtain ⟨t0, ve0, vk0, rfl, ht0⟩ := tree_arg (hval 0 27 v0 rfl rfl) h0 (fun m hm => by
    have := List.all_eq_true.1 hsz m (DataW.weights_mem_each (j := 0) (t := 27) (d := d0) rfl rfl m hm)
    simpa using this)
  obtain ⟨o1, vp1, rfl, hl1, ho1⟩ := op_arg (hval 1 80 v1 rfl rfl) h1 (fun m hm => by
    have := List.all_eq_true.1 hsz m (DataW.weights_mem_each (j := 1) (t := 80) (d := d1) rfl rfl m hm)
    simpa using this)
  obtain ⟨x2, rfl, hx2⟩ := dot_arg (hval 2 54 v2 rfl rfl) h2
  refine (lawAP_any t0 o1 x2 W ve0 vk0 vp1 ht0 hl1 ho1 hx2).mono fun e W' ⟨he, hb⟩ => ?_
  subst he
  have hargs := trodAll_below laidOut _ _ _ _ (fun t ht => by simp at ht; rcases ht with rfl | rfl | rfl <;> first | exact okTree | exact okOp | exact okDot) hAll hb hlt
  exact ⟨_, rfl, _, _, _, [], _, [], hW', trodAll_mk1 (shut_bool Tryz.underlying4 _), hargs, rfl, hb.frame _, fun h => by cases h⟩

theorem opApplies_j00 : (Rows.opAppliesRow.wf (OpenSpec.ofChange Rows.opAppliesSpec)) = true := by kernel_rfl
theorem opApplies_j03 : (Tryz.f12.params.all (Tryz.pinned.checked.prog.readableRec ·)) = true := by kernel_rfl
theorem opApplies_j04 : (namedTie Tryz.pinned.checked.prog Rows.opAppliesRow.named Rows.opAppliesSpec.vars) = true := by kernel_rfl
theorem opApplies_j05 : ((Rows.opAppliesRow.stops == [])) = true := by kernel_rfl
theorem opApplies_j07 : ((Rows.opAppliesRow.knobs == [])) = true := by kernel_rfl
theorem opApplies_j09 : ((Rows.opAppliesRow.inPlace == Tryz.pinned.checked.prog.inPlace 12)) = true := by kernel_rfl
theorem opApplies_j10 : ((Rows.opAppliesRow.unfollowed == Tryz.pinned.checked.prog.unfollowed 12)) = true := by kernel_rfl
theorem opApplies_j11 : ((Rows.opAppliesRow.recurses == Tryz.pinned.checked.prog.recurses 12)) = true := by kernel_rfl
theorem opApplies_j12 : ((Rows.opAppliesRow.named == Tryz.pinned.checked.prog.varsNamed 12)) = true := by kernel_rfl
theorem opApplies_j13 : ((Rows.opAppliesRow.maps == (Tryz.f12.params.toList ++ Rows.opAppliesSpec.plain.varTypes Tryz.pinned.checked.prog).any (Tryz.pinned.checked.prog.mapsRec ·))) = true := by kernel_rfl
theorem opApplies_j14 : ((Rows.opAppliesRow.ifaces == (Tryz.f12.params.toList ++ Rows.opAppliesSpec.plain.varTypes Tryz.pinned.checked.prog).any (Tryz.pinned.checked.prog.ifacesRec ·))) = true := by kernel_rfl
theorem opApplies_j15 : ((Rows.opAppliesRow.mapsOut == Tryz.pinned.checked.prog.mapsAmong Tryz.f12.resultTypes.toList)) = true := by kernel_rfl
theorem opApplies_j16 : ((Rows.opAppliesRow.loops == (Tryz.f12.params.toList ++ Rows.opAppliesSpec.plain.varTypes Tryz.pinned.checked.prog).any (Tryz.pinned.checked.prog.loopsFrom ·))) = true := by kernel_rfl
theorem opApplies_j17 : ((Rows.opAppliesRow.wideKeys == (Tryz.f12.params.toList ++ Rows.opAppliesSpec.plain.varTypes Tryz.pinned.checked.prog ++ Tryz.f12.resultTypes.toList).any (Tryz.pinned.checked.prog.wideKeysFrom ·))) = true := by kernel_rfl
theorem opApplies_j18 : (Rows.opAppliesSpec.vars.all (Tryz.pinned.checked.prog.varReadable ·)) = true := by kernel_rfl
theorem opApplies_j19 : (Tryz.f12.resultTypes.all (fun t => Tryz.pinned.checked.prog.readableRec t && decide (t < Tryz.pinned.checked.prog.types.size))) = true := by kernel_rfl
theorem opApplies_j20 : ((Rows.opAppliesRow.ifacesOut == Tryz.f12.resultTypes.toList.any (Tryz.pinned.checked.prog.ifacesRec ·))) = true := by kernel_rfl
theorem opApplies_j21 : ((Rows.opAppliesRow.loopsOut == Tryz.f12.resultTypes.toList.any (Tryz.pinned.checked.prog.loopsFrom ·))) = true := by kernel_rfl
theorem opApplies_j22 : ((Rows.opAppliesRow.plainKeys == Tryz.pinned.checked.prog.plainKeys)) = true := by kernel_rfl
theorem opApplies_j23 : (Rows.opAppliesRow.shortTexts.isNone) = true := by kernel_rfl
theorem opApplies_j26 : ((Rows.opAppliesRow.lifted == Tryz.pinned.checked.prog.liftsFinal)) = true := by rw [headFinal]; kernel_rfl
theorem opApplies_j27 : ((Tryz.pinned.checked.prog.make == some Rows.opAppliesRow.make)) = true := by rw [headMake]; kernel_rfl
theorem opApplies_j28 : ((Rows.opAppliesRow.kinds == (if Rows.opAppliesRow.domain.isEmpty then [] else Tryz.f12.params.toList.map fun t => match Tryz.pinned.checked.prog.underlying t with | some (.int k) => some k | _ => none))) = true := by kernel_rfl
theorem opApplies_j29 : ((Rows.opAppliesRow.pinned == Rows.opAppliesRow.pinnedBy)) = true := by kernel_rfl
theorem opApplies_j30 : ((Rows.opAppliesRow.veiled == (Tryz.f12.params.toList ++ Rows.opAppliesSpec.plain.varTypes Tryz.pinned.checked.prog ++ Tryz.f12.resultTypes.toList).any (Tryz.pinned.checked.prog.veiledRec ·))) = true := by kernel_rfl
theorem opApplies_j31 : (Rows.opAppliesRow.veiledFits Tryz.pinned.checked.prog Tryz.f12.params.toList (Tryz.f12.params.toList ++ Rows.opAppliesSpec.plain.varTypes Tryz.pinned.checked.prog ++ Tryz.f12.resultTypes.toList)) = true := by kernel_rfl
theorem opApplies_closed : joinedFacts Tryz.pinned.checked.prog 12 Tryz.f12 Rows.opAppliesSpec Rows.opAppliesRow = true :=
  and2 (and2 (and2 (and2 (and2 (and2 (and2 (and2 (and2 (and2 (and2 (and2 (and2 (and2 (and2 (and2 (and2 (and2 (and2 (and2 (and2 (and2 (and2 (and2 (and2 (and2 (and2 (and2 (and2 (and2 (and2 (opApplies_j00) closedP01) closedP02) opApplies_j03) opApplies_j04) opApplies_j05) closedP06) opApplies_j07) closedP08) opApplies_j09) opApplies_j10) opApplies_j11) opApplies_j12) opApplies_j13) opApplies_j14) opApplies_j15) opApplies_j16) opApplies_j17) opApplies_j18) opApplies_j19) opApplies_j20) opApplies_j21) opApplies_j22) opApplies_j23) closedP24) closedP25) opApplies_j26) opApplies_j27) opApplies_j28) opApplies_j29) opApplies_j30) opApplies_j31

theorem opApplies_holds : Rows.OpAppliesSaid :=
  OpenClaim.holds_of_wide 12 Tryz.f12 rfl rfl rfl rfl rfl rfl rfl ⟨rfl, rfl, rfl, rfl, rfl⟩ rfl rfl rfl rfl rfl (by kernel_rfl) Tryz.func12 opApplies_closed
    (of_decide_eq_true (by kernel_rfl)) (by unfold Func.isWrapper; first | (rw [if_pos (by decide +kernel)]; kernel_rfl) | (rw [if_neg (by decide +kernel)]; exact ⟨rfl, rfl⟩))
    (fun os started H enc _ => opApplies_lifted os started H enc)
end Go.Proofs.YtmphgnjodangcaaGreat
