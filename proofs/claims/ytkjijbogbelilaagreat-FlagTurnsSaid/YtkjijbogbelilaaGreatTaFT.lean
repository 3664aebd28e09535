/- The law FlagTurns returns true at every input, and leaves its arguments as they were. No condition. -/
import Derived.Test.YtkjijbogbelilaaGreatTa6
namespace Go.Proofs.YtkjijbogbelilaaGreat
open Go.ChangeShapes Go.WideShapes Go.ChangeAt Go.RowKit
set_option maxRecDepth 100000

theorem flagTurns_lifted (os : Os) (started : os.Started) (H : Type) (enc : TypeId × Value → H) :
    ReturnsInHanded {} Tryz.checked os 12 .any (Rows.flagTurnsSpec.pre6 enc Tryz.prog Tryz.f12 Rows.flagTurnsRow.domain false) (Rows.flagTurnsSpec.post enc Tryz.prog Tryz.f12 false true false false) := by
  refine returnsInHanded_of_change_sized (C := Tryz.checked) own started (by kernel_rfl) Tryz.func12
    (ChangeSpec.witness6 (enc := enc) (C := Tryz.checked) false ⟨#[], #[.agg #[.slice none 0 0, .slice none 0 0], .agg #[.int .i64 0, .int .i64 0]], []⟩ 8 (by kernel_rfl) (by kernel_rfl) (by kernel_rfl) (by kernel_rfl)) ?_
  intro W base args ds gs before hval0 hW _ hsz0 _
  have hsz : (DataW.weightsEach Tryz.prog (Tryz.f12.params.toList ++ Rows.flagTurnsSpec.plain.varTypes Tryz.prog) (ds ++ gs)).all (· ≤ reachBytes) = true := hsz0
  clear hsz0
  have hval : ∀ (j : Nat) t v, Tryz.f12.params[j]? = some t → args[j]? = some v → Value.okWide Tryz.prog W .any base t v := hval0
  have hW' := hW
  obtain ⟨p, q, hA0, hV, rfl, _, _⟩ := hW
  have hA : DataW.TrodAll enc Tryz.prog W 0 (fun _ => true) true Tryz.f12.params.toList args.toList ds p := hA0
  rw [Tryz.params12] at hA hval hsz
  have hAll := hA
  have hlt : ∀ x ∈ p, x.block < W.heap.size := fun x hx => hW'.lt x (List.mem_append_left _ hx)
  obtain ⟨v0, v1, d0, d1, p0, p1, rfl, rfl, rfl, h0, h1⟩ := trodAll_two hA
  obtain ⟨rfl, rfl⟩ := trodVars_none hV
  clear hA0 hval0
  simp only [List.append_nil] at hW'
  obtain ⟨t0, ve0, vk0, rfl, ht0⟩ := tree_arg (hval 0 25 v0 rfl rfl) h0 (fun m hm => by
    have := List.all_eq_true.1 hsz m (DataW.weights_mem_each (j := 0) (t := 25) (d := d0) rfl rfl m hm)
    simpa using this)
  obtain ⟨x1, rfl, hx1⟩ := dot_arg (hval 1 42 v1 rfl rfl) h1
  refine (lawFT_any t0 x1 W ve0 vk0 ht0 hx1).mono fun e W' ⟨he, hb⟩ => ?_
  subst he
  have hargs := trodAll_below laidOut _ _ _ _ (fun t ht => by simp at ht; rcases ht with rfl | rfl <;> first | exact okTree | exact okDot) hAll hb hlt
  exact ⟨_, rfl, _, _, _, [], _, [], hW', trodAll_mk1 (shut_bool Tryz.underlying4 _), hargs, rfl, hb.frame _, fun h => by cases h⟩

theorem flagTurns_j00 : (Rows.flagTurnsRow.wf (OpenSpec.ofChange Rows.flagTurnsSpec)) = true := by kernel_rfl
theorem flagTurns_j03 : (Tryz.f12.params.all (Tryz.pinned.checked.prog.readableRec ·)) = true := by kernel_rfl
theorem flagTurns_j04 : (namedTie Tryz.pinned.checked.prog Rows.flagTurnsRow.named Rows.flagTurnsSpec.vars) = true := by kernel_rfl
theorem flagTurns_j05 : ((Rows.flagTurnsRow.stops == [])) = true := by kernel_rfl
theorem flagTurns_j07 : ((Rows.flagTurnsRow.knobs == [])) = true := by kernel_rfl
theorem flagTurns_j09 : ((Rows.flagTurnsRow.inPlace == Tryz.pinned.checked.prog.inPlace 12)) = true := by kernel_rfl
theorem flagTurns_j10 : ((Rows.flagTurnsRow.unfollowed == Tryz.pinned.checked.prog.unfollowed 12)) = true := by kernel_rfl
theorem flagTurns_j11 : ((Rows.flagTurnsRow.recurses == Tryz.pinned.checked.prog.recurses 12)) = true := by kernel_rfl
theorem flagTurns_j12 : ((Rows.flagTurnsRow.named == Tryz.pinned.checked.prog.varsNamed 12)) = true := by kernel_rfl
theorem flagTurns_j13 : ((Rows.flagTurnsRow.maps == (Tryz.f12.params.toList ++ Rows.flagTurnsSpec.plain.varTypes Tryz.pinned.checked.prog).any (Tryz.pinned.checked.prog.mapsRec ·))) = true := by kernel_rfl
theorem flagTurns_j14 : ((Rows.flagTurnsRow.ifaces == (Tryz.f12.params.toList ++ Rows.flagTurnsSpec.plain.varTypes Tryz.pinned.checked.prog).any (Tryz.pinned.checked.prog.ifacesRec ·))) = true := by kernel_rfl
theorem flagTurns_j15 : ((Rows.flagTurnsRow.mapsOut == Tryz.pinned.checked.prog.mapsAmong Tryz.f12.resultTypes.toList)) = true := by kernel_rfl
theorem flagTurns_j16 : ((Rows.flagTurnsRow.loops == (Tryz.f12.params.toList ++ Rows.flagTurnsSpec.plain.varTypes Tryz.pinned.checked.prog).any (Tryz.pinned.checked.prog.loopsFrom ·))) = true := by kernel_rfl
theorem flagTurns_j17 : ((Rows.flagTurnsRow.wideKeys == (Tryz.f12.params.toList ++ Rows.flagTurnsSpec.plain.varTypes Tryz.pinned.checked.prog ++ Tryz.f12.resultTypes.toList).any (Tryz.pinned.checked.prog.wideKeysFrom ·))) = true := by kernel_rfl
theorem flagTurns_j18 : (Rows.flagTurnsSpec.vars.all (Tryz.pinned.checked.prog.varReadable ·)) = true := by kernel_rfl
theorem flagTurns_j19 : (Tryz.f12.resultTypes.all (fun t => Tryz.pinned.checked.prog.readableRec t && decide (t < Tryz.pinned.checked.prog.types.size))) = true := by kernel_rfl
theorem flagTurns_j20 : ((Rows.flagTurnsRow.ifacesOut == Tryz.f12.resultTypes.toList.any (Tryz.pinned.checked.prog.ifacesRec ·))) = true := by kernel_rfl
theorem flagTurns_j21 : ((Rows.flagTurnsRow.loopsOut == Tryz.f12.resultTypes.toList.any (Tryz.pinned.checked.prog.loopsFrom ·))) = true := by kernel_rfl
theorem flagTurns_j22 : ((Rows.flagTurnsRow.plainKeys == Tryz.pinned.checked.prog.plainKeys)) = true := by kernel_rfl
theorem flagTurns_j23 : (Rows.flagTurnsRow.shortTexts.isNone) = true := by kernel_rfl
theorem flagTurns_j26 : ((Rows.flagTurnsRow.lifted == Tryz.pinned.checked.prog.liftsFinal)) = true := by rw [headFinal]; kernel_rfl
theorem flagTurns_j27 : ((Tryz.pinned.checked.prog.make == some Rows.flagTurnsRow.make)) = true := by rw [headMake]; kernel_rfl
theorem flagTurns_j28 : ((Rows.flagTurnsRow.kinds == (if Rows.flagTurnsRow.domain.isEmpty then [] else Tryz.f12.params.toList.map fun t => match Tryz.pinned.checked.prog.underlying t with | some (.int k) => some k | _ => none))) = true := by kernel_rfl
theorem flagTurns_j29 : ((Rows.flagTurnsRow.pinned == Rows.flagTurnsRow.pinnedBy)) = true := by kernel_rfl
theorem flagTurns_j30 : ((Rows.flagTurnsRow.veiled == (Tryz.f12.params.toList ++ Rows.flagTurnsSpec.plain.varTypes Tryz.pinned.checked.prog ++ Tryz.f12.resultTypes.toList).any (Tryz.pinned.checked.prog.veiledRec ·))) = true := by kernel_rfl
theorem flagTurns_j31 : (Rows.flagTurnsRow.veiledFits Tryz.pinned.checked.prog Tryz.f12.params.toList (Tryz.f12.params.toList ++ Rows.flagTurnsSpec.plain.varTypes Tryz.pinned.checked.prog ++ Tryz.f12.resultTypes.toList)) = true := by kernel_rfl
theorem flagTurns_closed : joinedFacts Tryz.pinned.checked.prog 12 Tryz.f12 Rows.flagTurnsSpec Rows.flagTurnsRow = true :=
  and2 (and2 (and2 (and2 (and2 (and2 (and2 (and2 (and2 (and2 (and2 (and2 (and2 (and2 (and2 (and2 (and2 (and2 (and2 (and2 (and2 (and2 (and2 (and2 (and2 (and2 (and2 (and2 (and2 (and2 (and2 (flagTurns_j00) closedP01) closedP02) flagTurns_j03) flagTurns_j04) flagTurns_j05) closedP06) flagTurns_j07) closedP08) flagTurns_j09) flagTurns_j10) flagTurns_j11) flagTurns_j12) flagTurns_j13) flagTurns_j14) flagTurns_j15) flagTurns_j16) flagTurns_j17) flagTurns_j18) flagTurns_j19) flagTurns_j20) flagTurns_j21) flagTurns_j22) flagTurns_j23) closedP24) closedP25) flagTurns_j26) flagTurns_j27) flagTurns_j28) flagTurns_j29) flagTurns_j30) flagTurns_j31

theorem flagTurns_holds : Rows.FlagTurnsSaid :=
  OpenClaim.holds_of_wide 12 Tryz.f12 rfl rfl rfl rfl rfl rfl rfl ⟨rfl, rfl, rfl, rfl, rfl⟩ rfl rfl rfl rfl rfl (by kernel_rfl) Tryz.func12 flagTurns_closed
    (of_decide_eq_true (by kernel_rfl)) (by unfold Func.isWrapper; first | (rw [if_pos (by decide +kernel)]; kernel_rfl) | (rw [if_neg (by decide +kernel)]; exact ⟨rfl, rfl⟩))
    (fun os started H enc _ => flagTurns_lifted os started H enc)
end Go.Proofs.YtkjijbogbelilaaGreat
