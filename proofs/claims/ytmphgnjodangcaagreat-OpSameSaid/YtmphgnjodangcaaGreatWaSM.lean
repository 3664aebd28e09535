/- The law OpSame returns true at every input, and leaves its arguments as they were. No condition. -/
import Derived.Test.YtmphgnjodangcaaGreatWa11
namespace Go.Proofs.YtmphgnjodangcaaGreat
open Go.ChangeShapes Go.WideShapes Go.ChangeAt Go.RowKit
set_option maxRecDepth 100000

theorem opSame_lifted (os : Os) (started : os.Started) (H : Type) (enc : TypeId × Value → H) :
    ReturnsInHanded {} Tryz.checked os 15 .any (Rows.opSameSpec.pre6 enc Tryz.prog Tryz.f15 Rows.opSameRow.domain false) (Rows.opSameSpec.post enc Tryz.prog Tryz.f15 false true false false) := by
  refine returnsInHanded_of_change_sized (C := Tryz.checked) own started (by kernel_rfl) Tryz.func15
    (ChangeSpec.witness6 (enc := enc) (C := Tryz.checked) false ⟨#[], #[.agg #[.int .i64 0, .bool false, .int .i64 0, .slice none 0 0], .agg #[.int .i64 0, .bool false, .int .i64 0, .slice none 0 0]], []⟩ 8 (by kernel_rfl) (by kernel_rfl) (by kernel_rfl) (by kernel_rfl)) ?_
  intro W base args ds gs before hval0 hW _ hsz0 _
  have hsz : (DataW.weightsEach Tryz.prog (Tryz.f15.params.toList ++ Rows.opSameSpec.plain.varTypes Tryz.prog) (ds ++ gs)).all (· ≤ reachBytes) = true := hsz0
  clear hsz0
  have hval : ∀ (j : Nat) t v, Tryz.f15.params[j]? = some t → args[j]? = some v → Value.okWide Tryz.prog W .any base t v := hval0
  have hW' := hW
  obtain ⟨p, q, hA0, hV, rfl, _, _⟩ := hW
  have hA : DataW.TrodAll enc Tryz.prog W 0 (fun _ => true) true Tryz.f15.params.toList args.toList ds p := hA0
  rw [Tryz.params15] at hA hval hsz
  have hAll := hA
  have hlt : ∀ x ∈ p, x.block < W.heap.size := fun x hx => hW'.lt x (List.mem_append_left _ hx)
  obtain ⟨v0, v1, d0, d1, p0, p1, rfl, rfl, rfl, h0, h1⟩ := trodAll_two hA
  obtain ⟨rfl, rfl⟩ := trodVars_none hV
  clear hA0 hval0
  simp only [List.append_nil] at hW'
  obtain ⟨o0, vp0, rfl, hl0, ho0⟩ := view_arg (hval 0 86 v0 rfl rfl) h0 (fun m hm => by
    have := List.all_eq_true.1 hsz m (DataW.weights_mem_each (j := 0) (t := 86) (d := d0) rfl rfl m hm)
    simpa using this)
  obtain ⟨o1, vp1, rfl, hl1, ho1⟩ := view_arg (hval 1 86 v1 rfl rfl) h1 (fun m hm => by
    have := List.all_eq_true.1 hsz m (DataW.weights_mem_each (j := 1) (t := 86) (d := d1) rfl rfl m hm)
    simpa using this)
  refine (lawSM_any o0 o1 W vp0 vp1 hl0 ho0 hl1 ho1).mono fun e W' ⟨he, hb⟩ => ?_
  subst he
  have hargs := trodAll_below laidOut _ _ _ _ (fun t ht => by simp at ht; rcases ht with rfl | rfl <;> first | exact okView) hAll hb hlt
  exact ⟨_, rfl, _, _, _, [], _, [], hW', trodAll_mk1 (shut_bool Tryz.underlying4 _), hargs, rfl, hb.frame _, fun h => by cases h⟩

theorem opSame_j00 : (Rows.opSameRow.wf (OpenSpec.ofChange Rows.opSameSpec)) = true := by kernel_rfl
theorem opSame_j03 : (Tryz.f15.params.all (Tryz.pinned.checked.prog.readableRec ·)) = true := by kernel_rfl
theorem opSame_j04 : (namedTie Tryz.pinned.checked.prog Rows.opSameRow.named Rows.opSameSpec.vars) = true := by kernel_rfl
theorem opSame_j05 : ((Rows.opSameRow.stops == [])) = true := by kernel_rfl
theorem opSame_j07 : ((Rows.opSameRow.knobs == [])) = true := by kernel_rfl
theorem opSame_j09 : ((Rows.opSameRow.inPlace == Tryz.pinned.checked.prog.inPlace 15)) = true := by kernel_rfl
theorem opSame_j10 : ((Rows.opSameRow.unfollowed == Tryz.pinned.checked.prog.unfollowed 15)) = true := by kernel_rfl
theorem opSame_j11 : ((Rows.opSameRow.recurses == Tryz.pinned.checked.prog.recurses 15)) = true := by kernel_rfl
theorem opSame_j12 : ((Rows.opSameRow.named == Tryz.pinned.checked.prog.varsNamed 15)) = true := by kernel_rfl
theorem opSame_j13 : ((Rows.opSameRow.maps == (Tryz.f15.params.toList ++ Rows.opSameSpec.plain.varTypes Tryz.pinned.checked.prog).any (Tryz.pinned.checked.prog.mapsRec ·))) = true := by kernel_rfl
theorem opSame_j14 : ((Rows.opSameRow.ifaces == (Tryz.f15.params.toList ++ Rows.opSameSpec.plain.varTypes Tryz.pinned.checked.prog).any (Tryz.pinned.checked.prog.ifacesRec ·))) = true := by kernel_rfl
theorem opSame_j15 : ((Rows.opSameRow.mapsOut == Tryz.pinned.checked.prog.mapsAmong Tryz.f15.resultTypes.toList)) = true := by kernel_rfl
theorem opSame_j16 : ((Rows.opSameRow.loops == (Tryz.f15.params.toList ++ Rows.opSameSpec.plain.varTypes Tryz.pinned.checked.prog).any (Tryz.pinned.checked.prog.loopsFrom ·))) = true := by kernel_rfl
theorem opSame_j17 : ((Rows.opSameRow.wideKeys == (Tryz.f15.params.toList ++ Rows.opSameSpec.plain.varTypes Tryz.pinned.checked.prog ++ Tryz.f15.resultTypes.toList).any (Tryz.pinned.checked.prog.wideKeysFrom ·))) = true := by kernel_rfl
theorem opSame_j18 : (Rows.opSameSpec.vars.all (Tryz.pinned.checked.prog.varReadable ·)) = true := by kernel_rfl
theorem opSame_j19 : (Tryz.f15.resultTypes.all (fun t => Tryz.pinned.checked.prog.readableRec t && decide (t < Tryz.pinned.checked.prog.types.size))) = true := by kernel_rfl
theorem opSame_j20 : ((Rows.opSameRow.ifacesOut == Tryz.f15.resultTypes.toList.any (Tryz.pinned.checked.prog.ifacesRec ·))) = true := by kernel_rfl
theorem opSame_j21 : ((Rows.opSameRow.loopsOut == Tryz.f15.resultTypes.toList.any (Tryz.pinned.checked.prog.loopsFrom ·))) = true := by kernel_rfl
theorem opSame_j22 : ((Rows.opSameRow.plainKeys == Tryz.pinned.checked.prog.plainKeys)) = true := by kernel_rfl
theorem opSame_j23 : (Rows.opSameRow.shortTexts.isNone) = true := by kernel_rfl
theorem opSame_j26 : ((Rows.opSameRow.lifted == Tryz.pinned.checked.prog.liftsFinal)) = true := by rw [headFinal]; kernel_rfl
theorem opSame_j27 : ((Tryz.pinned.checked.prog.make == some Rows.opSameRow.make)) = true := by rw [headMake]; kernel_rfl
theorem opSame_j28 : ((Rows.opSameRow.kinds == (if Rows.opSameRow.domain.isEmpty then [] else Tryz.f15.params.toList.map fun t => match Tryz.pinned.checked.prog.underlying t with | some (.int k) => some k | _ => none))) = true := by kernel_rfl
theorem opSame_j29 : ((Rows.opSameRow.pinned == Rows.opSameRow.pinnedBy)) = true := by kernel_rfl
theorem opSame_j30 : ((Rows.opSameRow.veiled == (Tryz.f15.params.toList ++ Rows.opSameSpec.plain.varTypes Tryz.pinned.checked.prog ++ Tryz.f15.resultTypes.toList).any (Tryz.pinned.checked.prog.veiledRec ·))) = true := by kernel_rfl
theorem opSame_j31 : (Rows.opSameRow.veiledFits Tryz.pinned.checked.prog Tryz.f15.params.toList (Tryz.f15.params.toList ++ Rows.opSameSpec.plain.varTypes Tryz.pinned.checked.prog ++ Tryz.f15.resultTypes.toList)) = true := by kernel_rfl
theorem opSame_closed : joinedFacts Tryz.pinned.checked.prog 15 Tryz.f15 Rows.opSameSpec Rows.opSameRow = true :=
  and2 (and2 (and2 (and2 (and2 (and2 (and2 (and2 (and2 (and2 (and2 (and2 (and2 (and2 (and2 (and2 (and2 (and2 (and2 (and2 (and2 (and2 (and2 (and2 (and2 (and2 (and2 (and2 (and2 (and2 (and2 (opSame_j00) closedP01) closedP02) opSame_j03) opSame_j04) opSame_j05) closedP06) opSame_j07) closedP08) opSame_j09) opSame_j10) opSame_j11) opSame_j12) opSame_j13) opSame_j14) opSame_j15) opSame_j16) opSame_j17) opSame_j18) opSame_j19) opSame_j20) opSame_j21) opSame_j22) opSame_j23) closedP24) closedP25) opSame_j26) opSame_j27) opSame_j28) opSame_j29) opSame_j30) opSame_j31

theorem opSame_holds : Rows.OpSameSaid :=
  OpenClaim.holds_of_wide 15 Tryz.f15 rfl rfl rfl rfl rfl rfl rfl ⟨rfl, rfl, rfl, rfl, rfl⟩ rfl rfl rfl rfl rfl (by kernel_rfl) Tryz.func15 opSame_closed
    (of_decide_eq_true (by kernel_rfl)) (by unfold Func.isWrapper; first | (rw [if_pos (by decide +kernel)]; kernel_rfl) | (rw [if_neg (by decide +kernel)]; exact ⟨rfl, rfl⟩))
    (fun os started H enc _ => opSame_lifted os started H enc)
end Go.Proofs.YtmphgnjodangcaaGreat
