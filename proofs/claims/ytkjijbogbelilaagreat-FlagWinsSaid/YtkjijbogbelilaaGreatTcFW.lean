/- The law FlagWins returns true at every input, and leaves its arguments as they were. No condition. -/
import Derived.Test.YtkjijbogbelilaaGreatTc1
namespace Go.Proofs.YtkjijbogbelilaaGreat
open Go.ChangeShapes Go.WideShapes Go.ChangeAt Go.RowKit
set_option maxRecDepth 100000

theorem flagWins_lifted (os : Os) (started : os.Started) (H : Type) (enc : TypeId × Value → H) :
    ReturnsInHanded {} Tryz.checked os 13 .any (Rows.flagWinsSpec.pre6 enc Tryz.prog Tryz.f13 Rows.flagWinsRow.domain false) (Rows.flagWinsSpec.post enc Tryz.prog Tryz.f13 false true false false) := by
  refine returnsInHanded_of_change_sized (C := Tryz.checked) own started (by kernel_rfl) Tryz.func13
    (ChangeSpec.witness6 (enc := enc) (C := Tryz.checked) false ⟨#[], #[.agg #[.slice none 0 0, .slice none 0 0], .agg #[.int .i64 0, .int .i64 0], .agg #[.int .i64 0, .int .i64 0]], []⟩ 8 (by kernel_rfl) (by kernel_rfl) (by kernel_rfl) (by kernel_rfl)) ?_
  intro W base args ds gs before hval0 hW _ hsz0 _
  have hsz : (DataW.weightsEach Tryz.prog (Tryz.f13.params.toList ++ Rows.flagWinsSpec.plain.varTypes Tryz.prog) (ds ++ gs)).all (· ≤ reachBytes) = true := hsz0
  clear hsz0
  have hval : ∀ (j : Nat) t v, Tryz.f13.params[j]? = some t → args[j]? = some v → Value.okWide Tryz.prog W .any base t v := hval0
  have hW' := hW
  obtain ⟨p, q, hA0, hV, rfl, _, _⟩ := hW
  have hA : DataW.TrodAll enc Tryz.prog W 0 (fun _ => true) true Tryz.f13.params.toList args.toList ds p := hA0
  rw [Tryz.params13] at hA hval hsz
  have hAll := hA
  have hlt : ∀ x ∈ p, x.block < W.heap.size := fun x hx => hW'.lt x (List.mem_append_left _ hx)
  obtain ⟨v0, v1, v2, d0, d1, d2, p0, p1, p2, rfl, rfl, rfl, h0, h1, h2⟩ := trodAll_three hA
  obtain ⟨rfl, rfl⟩ := trodVars_none hV
  clear hA0 hval0
  simp only [List.append_nil] at hW'
  obtain ⟨t0, ve0, vk0, rfl, ht0⟩ := tree_arg (hval 0 25 v0 rfl rfl) h0 (fun m hm => by
    have := List.all_eq_true.1 hsz m (DataW.weights_mem_each (j := 0) (t := 25) (d := d0) rfl rfl m hm)
    simpa using this)
  obtain ⟨x1, rfl, hx1⟩ := dot_arg (hval 1 42 v1 rfl rfl) h1
  obtain ⟨x2, rfl, hx2⟩ := dot_arg (hval 2 42 v2 rfl rfl) h2
  refine (lawFW_any t0 x1 x2 W ve0 vk0 ht0 hx1 hx2).mono fun e W' ⟨he, hb⟩ => ?_
  subst he
  have hargs := trodAll_below laidOut _ _ _ _ (fun t ht => by simp at ht; rcases ht with rfl | rfl | rfl <;> first | exact okTree | exact okDot) hAll hb hlt
  exact ⟨_, rfl, _, _, _, [], _, [], hW', trodAll_mk1 (shut_bool Tryz.underlying4 _), hargs, rfl, hb.frame _, fun h => by cases h⟩

theorem flagWins_j00 : (Rows.flagWinsRow.wf (OpenSpec.ofChange Rows.flagWinsSpec)) = true := by kernel_rfl
theorem flagWins_j03 : (Tryz.f13.params.all (Tryz.pinned.checked.prog.readableRec ·)) = true := by kernel_rfl
theorem flagWins_j04 : (namedTie Tryz.pinned.checked.prog Rows.flagWinsRow.named Rows.flagWinsSpec.vars) = true := by kernel_rfl
theorem flagWins_j05 : ((Rows.flagWinsRow.stops == [])) = true := by kernel_rfl
theorem flagWins_j07 : ((Rows.flagWinsRow.knobs == [])) = true := by kernel_rfl
theorem flagWins_j09 : ((Rows.flagWinsRow.inPlace == Tryz.pinned.checked.prog.inPlace 13)) = true := by kernel_rfl
theorem flagWins_j10 : ((Rows.flagWinsRow.unfollowed == Tryz.pinned.checked.prog.unfollowed 13)) = true := by kernel_rfl
theorem flagWins_j11 : ((Rows.flagWinsRow.recurses == Tryz.pinned.checked.prog.recurses 13)) = true := by kernel_rfl
theorem flagWins_j12 : ((Rows.flagWinsRow.named == Tryz.pinned.checked.prog.varsNamed 13)) = true := by kernel_rfl
theorem flagWins_j13 : ((Rows.flagWinsRow.maps == (Tryz.f13.params.toList ++ Rows.flagWinsSpec.plain.varTypes Tryz.pinned.checked.prog).any (Tryz.pinned.checked.prog.mapsRec ·))) = true := by kernel_rfl
theorem flagWins_j14 : ((Rows.flagWinsRow.ifaces == (Tryz.f13.params.toList ++ Rows.flagWinsSpec.plain.varTypes Tryz.pinned.checked.prog).any (Tryz.pinned.checked.prog.ifacesRec ·))) = true := by kernel_rfl
theorem flagWins_j15 : ((Rows.flagWinsRow.mapsOut == Tryz.pinned.checked.prog.mapsAmong Tryz.f13.resultTypes.toList)) = true := by kernel_rfl
theorem flagWins_j16 : ((Rows.flagWinsRow.loops == (Tryz.f13.params.toList ++ Rows.flagWinsSpec.plain.varTypes Tryz.pinned.checked.prog).any (Tryz.pinned.checked.prog.loopsFrom ·))) = true := by kernel_rfl
theorem flagWins_j17 : ((Rows.flagWinsRow.wideKeys == (Tryz.f13.params.toList ++ Rows.flagWinsSpec.plain.varTypes Tryz.pinned.checked.prog ++ Tryz.f13.resultTypes.toList).any (Tryz.pinned.checked.prog.wideKeysFrom ·))) = true := by kernel_rfl
theorem flagWins_j18 : (Rows.flagWinsSpec.vars.all (Tryz.pinned.checked.prog.varReadable ·)) = true := by kernel_rfl
theorem flagWins_j19 : (Tryz.f13.resultTypes.all (fun t => Tryz.pinned.checked.prog.readableRec t && decide (t < Tryz.pinned.checked.prog.types.size))) = true := by kernel_rfl
theorem flagWins_j20 : ((Rows.flagWinsRow.ifacesOut == Tryz.f13.resultTypes.toList.any (Tryz.pinned.checked.prog.ifacesRec ·))) = true := by kernel_rfl
theorem flagWins_j21 : ((Rows.flagWinsRow.loopsOut == Tryz.f13.resultTypes.toList.any (Tryz.pinned.checked.prog.loopsFrom ·))) = true := by kernel_rfl
theorem flagWins_j22 : ((Rows.flagWinsRow.plainKeys == Tryz.pinned.checked.prog.plainKeys)) = true := by kernel_rfl
theorem flagWins_j23 : (Rows.flagWinsRow.shortTexts.isNone) = true := by kernel_rfl
theorem flagWins_j26 : ((Rows.flagWinsRow.lifted == Tryz.pinned.checked.prog.liftsFinal)) = true := by rw [headFinal]; kernel_rfl
theorem flagWins_j27 : ((Tryz.pinned.checked.prog.make == some Rows.flagWinsRow.make)) = true := by rw [headMake]; kernel_rfl
theorem flagWins_j28 : ((Rows.flagWinsRow.kinds == (if Rows.flagWinsRow.domain.isEmpty then [] else Tryz.f13.params.toList.map fun t => match Tryz.pinned.checked.prog.underlying t with | some (.int k) => some k | _ => none))) = true := by kernel_rfl
theorem flagWins_j29 : ((Rows.flagWinsRow.pinned == Rows.flagWinsRow.pinnedBy)) = true := by kernel_rfl
theorem flagWins_j30 : ((Rows.flagWinsRow.veiled == (Tryz.f13.params.toList ++ Rows.flagWinsSpec.plain.varTypes Tryz.pinned.checked.prog ++ Tryz.f13.resultTypes.toList).any (Tryz.pinned.checked.prog.veiledRec ·))) = true := by kernel_rfl
theorem flagWins_j31 : (Rows.flagWinsRow.veiledFits Tryz.pinned.checked.prog Tryz.f13.params.toList (Tryz.f13.params.toList ++ Rows.flagWinsSpec.plain.varTypes Tryz.pinned.checked.prog ++ Tryz.f13.resultTypes.toList)) = true := by kernel_rfl
theorem flagWins_closed : joinedFacts Tryz.pinned.checked.prog 13 Tryz.f13 Rows.flagWinsSpec Rows.flagWinsRow = true :=
  and2 (and2 (and2 (and2 (and2 (and2 (and2 (and2 (and2 (and2 (and2 (and2 (and2 (and2 (and2 (and2 (and2 (and2 (and2 (and2 (and2 (and2 (and2 (and2 (and2 (and2 (and2 (and2 (and2 (and2 (and2 (flagWins_j00) closedP01) closedP02) flagWins_j03) flagWins_j04) flagWins_j05) closedP06) flagWins_j07) closedP08) flagWins_j09) flagWins_j10) flagWins_j11) flagWins_j12) flagWins_j13) flagWins_j14) flagWins_j15) flagWins_j16) flagWins_j17) flagWins_j18) flagWins_j19) flagWins_j20) flagWins_j21) flagWins_j22) flagWins_j23) closedP24) closedP25) flagWins_j26) flagWins_j27) flagWins_j28) flagWins_j29) flagWins_j30) flagWins_j31

theorem flagWins_holds : Rows.FlagWinsSaid :=
  OpenClaim.holds_of_wide 13 Tryz.f13 rfl rfl rfl rfl rfl rfl rfl ⟨rfl, rfl, rfl, rfl, rfl⟩ rfl rfl rfl rfl rfl (by kernel_rfl) Tryz.func13 flagWins_closed
    (of_decide_eq_true (by kernel_rfl)) (by unfold Func.isWrapper; first | (rw [if_pos (by decide +kernel)]; kernel_rfl) | (rw [if_neg (by decide +kernel)]; exact ⟨rfl, rfl⟩))
    (fun os started H enc _ => flagWins_lifted os started H enc)
end Go.Proofs.YtkjijbogbelilaaGreat
