/- The law SetWins returns true at every input, and leaves its arguments as they were. No condition. -/
import Derived.Test.YtkjijbogbelilaaGreatTd2
namespace Go.Proofs.YtkjijbogbelilaaGreat
open Go.ChangeShapes Go.WideShapes Go.ChangeAt Go.RowKit
set_option maxRecDepth 100000

theorem setWins_lifted (os : Os) (started : os.Started) (H : Type) (enc : TypeId × Value → H) :
    ReturnsInHanded {} Tryz.checked os 20 .any (Rows.setWinsSpec.pre6 enc Tryz.prog Tryz.f20 Rows.setWinsRow.domain false) (Rows.setWinsSpec.post enc Tryz.prog Tryz.f20 false true false false) := by
  refine returnsInHanded_of_change_sized (C := Tryz.checked) own started (by kernel_rfl) Tryz.func20
    (ChangeSpec.witness6 (enc := enc) (C := Tryz.checked) false ⟨#[], #[.agg #[.slice none 0 0, .slice none 0 0], .string ByteArray.empty, .agg #[.int .i64 0, .int .i64 0], .agg #[.int .i64 0, .int .i64 0]], []⟩ 8 (by kernel_rfl) (by kernel_rfl) (by kernel_rfl) (by kernel_rfl)) ?_
  intro W base args ds gs before hval0 hW _ hsz0 _
  have hsz : (DataW.weightsEach Tryz.prog (Tryz.f20.params.toList ++ Rows.setWinsSpec.plain.varTypes Tryz.prog) (ds ++ gs)).all (· ≤ reachBytes) = true := hsz0
  clear hsz0
  have hval : ∀ (j : Nat) t v, Tryz.f20.params[j]? = some t → args[j]? = some v → Value.okWide Tryz.prog W .any base t v := hval0
  have hW' := hW
  obtain ⟨p, q, hA0, hV, rfl, _, _⟩ := hW
  have hA : DataW.TrodAll enc Tryz.prog W 0 (fun _ => true) true Tryz.f20.params.toList args.toList ds p := hA0
  rw [Tryz.params20] at hA hval hsz
  have hAll := hA
  have hlt : ∀ x ∈ p, x.block < W.heap.size := fun x hx => hW'.lt x (List.mem_append_left _ hx)
  obtain ⟨v0, v1, v2, v3, d0, d1, d2, d3, p0, p1, p2, p3, rfl, rfl, rfl, h0, h1, h2, h3⟩ := trodAll_four hA
  obtain ⟨rfl, rfl⟩ := trodVars_none hV
  clear hA0 hval0
  simp only [List.append_nil] at hW'
  obtain ⟨t0, ve0, vk0, rfl, ht0⟩ := tree_arg (hval 0 25 v0 rfl rfl) h0 (fun m hm => by
    have := List.all_eq_true.1 hsz m (DataW.weights_mem_each (j := 0) (t := 25) (d := d0) rfl rfl m hm)
    simpa using this)
  obtain ⟨s1, rfl, hs1⟩ := str_arg (hval 1 9 v1 rfl rfl) h1 (fun m hm => by
    have := List.all_eq_true.1 hsz m (DataW.weights_mem_each (j := 1) (t := 9) (d := d1) rfl rfl m hm)
    simpa using this)
  obtain ⟨x2, rfl, hx2⟩ := dot_arg (hval 2 42 v2 rfl rfl) h2
  obtain ⟨x3, rfl, hx3⟩ := dot_arg (hval 3 42 v3 rfl rfl) h3
  refine (lawSW_any t0 s1 x2 x3 W ve0 vk0 ht0 hs1 hx2 hx3).mono fun e W' ⟨he, hb⟩ => ?_
  subst he
  have hargs := trodAll_below laidOut _ _ _ _ (fun t ht => by simp at ht; rcases ht with rfl | rfl | rfl | rfl <;> first | exact okTree | exact okString | exact okDot) hAll hb hlt
  exact ⟨_, rfl, _, _, _, [], _, [], hW', trodAll_mk1 (shut_bool Tryz.underlying4 _), hargs, rfl, hb.frame _, fun h => by cases h⟩

theorem setWins_j00 : (Rows.setWinsRow.wf (OpenSpec.ofChange Rows.setWinsSpec)) = true := by kernel_rfl
theorem setWins_j03 : (Tryz.f20.params.all (Tryz.pinned.checked.prog.readableRec ·)) = true := by kernel_rfl
theorem setWins_j04 : (namedTie Tryz.pinned.checked.prog Rows.setWinsRow.named Rows.setWinsSpec.vars) = true := by kernel_rfl
theorem setWins_j05 : ((Rows.setWinsRow.stops == [])) = true := by kernel_rfl
theorem setWins_j07 : ((Rows.setWinsRow.knobs == [])) = true := by kernel_rfl
theorem setWins_j09 : ((Rows.setWinsRow.inPlace == Tryz.pinned.checked.prog.inPlace 20)) = true := by kernel_rfl
theorem setWins_j10 : ((Rows.setWinsRow.unfollowed == Tryz.pinned.checked.prog.unfollowed 20)) = true := by kernel_rfl
theorem setWins_j11 : ((Rows.setWinsRow.recurses == Tryz.pinned.checked.prog.recurses 20)) = true := by kernel_rfl
theorem setWins_j12 : ((Rows.setWinsRow.named == Tryz.pinned.checked.prog.varsNamed 20)) = true := by kernel_rfl
theorem setWins_j13 : ((Rows.setWinsRow.maps == (Tryz.f20.params.toList ++ Rows.setWinsSpec.plain.varTypes Tryz.pinned.checked.prog).any (Tryz.pinned.checked.prog.mapsRec ·))) = true := by kernel_rfl
theorem setWins_j14 : ((Rows.setWinsRow.ifaces == (Tryz.f20.params.toList ++ Rows.setWinsSpec.plain.varTypes Tryz.pinned.checked.prog).any (Tryz.pinned.checked.prog.ifacesRec ·))) = true := by kernel_rfl
theorem setWins_j15 : ((Rows.setWinsRow.mapsOut == Tryz.pinned.checked.prog.mapsAmong Tryz.f20.resultTypes.toList)) = true := by kernel_rfl
theorem setWins_j16 : ((Rows.setWinsRow.loops == (Tryz.f20.params.toList ++ Rows.setWinsSpec.plain.varTypes Tryz.pinned.checked.prog).any (Tryz.pinned.checked.prog.loopsFrom ·))) = true := by kernel_rfl
theorem setWins_j17 : ((Rows.setWinsRow.wideKeys == (Tryz.f20.params.toList ++ Rows.setWinsSpec.plain.varTypes Tryz.pinned.checked.prog ++ Tryz.f20.resultTypes.toList).any (Tryz.pinned.checked.prog.wideKeysFrom ·))) = true := by kernel_rfl
theorem setWins_j18 : (Rows.setWinsSpec.vars.all (Tryz.pinned.checked.prog.varReadable ·)) = true := by kernel_rfl
theorem setWins_j19 : (Tryz.f20.resultTypes.all (fun t => Tryz.pinned.checked.prog.readableRec t && decide (t < Tryz.pinned.checked.prog.types.size))) = true := by kernel_rfl
theorem setWins_j20 : ((Rows.setWinsRow.ifacesOut == Tryz.f20.resultTypes.toList.any (Tryz.pinned.checked.prog.ifacesRec ·))) = true := by kernel_rfl
theorem setWins_j21 : ((Rows.setWinsRow.loopsOut == Tryz.f20.resultTypes.toList.any (Tryz.pinned.checked.prog.loopsFrom ·))) = true := by kernel_rfl
theorem setWins_j22 : ((Rows.setWinsRow.plainKeys == Tryz.pinned.checked.prog.plainKeys)) = true := by kernel_rfl
theorem setWins_j23 : (Rows.setWinsRow.shortTexts.isNone) = true := by kernel_rfl
theorem setWins_j26 : ((Rows.setWinsRow.lifted == Tryz.pinned.checked.prog.liftsFinal)) = true := by rw [headFinal]; kernel_rfl
theorem setWins_j27 : ((Tryz.pinned.checked.prog.make == some Rows.setWinsRow.make)) = true := by rw [headMake]; kernel_rfl
theorem setWins_j28 : ((Rows.setWinsRow.kinds == (if Rows.setWinsRow.domain.isEmpty then [] else Tryz.f20.params.toList.map fun t => match Tryz.pinned.checked.prog.underlying t with | some (.int k) => some k | _ => none))) = true := by kernel_rfl
theorem setWins_j29 : ((Rows.setWinsRow.pinned == Rows.setWinsRow.pinnedBy)) = true := by kernel_rfl
theorem setWins_j30 : ((Rows.setWinsRow.veiled == (Tryz.f20.params.toList ++ Rows.setWinsSpec.plain.varTypes Tryz.pinned.checked.prog ++ Tryz.f20.resultTypes.toList).any (Tryz.pinned.checked.prog.veiledRec ·))) = true := by kernel_rfl
theorem setWins_j31 : (Rows.setWinsRow.veiledFits Tryz.pinned.checked.prog Tryz.f20.params.toList (Tryz.f20.params.toList ++ Rows.setWinsSpec.plain.varTypes Tryz.pinned.checked.prog ++ Tryz.f20.resultTypes.toList)) = true := by kernel_rfl
theorem setWins_closed : joinedFacts Tryz.pinned.checked.prog 20 Tryz.f20 Rows.setWinsSpec Rows.setWinsRow = true :=
  and2 (and2 (and2 (and2 (and2 (and2 (and2 (and2 (and2 (and2 (and2 (and2 (and2 (and2 (and2 (and2 (and2 (and2 (and2 (and2 (and2 (and2 (and2 (and2 (and2 (and2 (and2 (and2 (and2 (and2 (and2 (setWins_j00) closedP01) closedP02) setWins_j03) setWins_j04) setWins_j05) closedP06) setWins_j07) closedP08) setWins_j09) setWins_j10) setWins_j11) setWins_j12) setWins_j13) setWins_j14) setWins_j15) setWins_j16) setWins_j17) setWins_j18) setWins_j19) setWins_j20) setWins_j21) setWins_j22) setWins_j23) closedP24) closedP25) setWins_j26) setWins_j27) setWins_j28) setWins_j29) setWins_j30) setWins_j31

theorem setWins_holds : Rows.SetWinsSaid :=
  OpenClaim.holds_of_wide 20 Tryz.f20 rfl rfl rfl rfl rfl rfl rfl ⟨rfl, rfl, rfl, rfl, rfl⟩ rfl rfl rfl rfl rfl (by kernel_rfl) Tryz.func20 setWins_closed
    (of_decide_eq_true (by kernel_rfl)) (by unfold Func.isWrapper; first | (rw [if_pos (by decide +kernel)]; kernel_rfl) | (rw [if_neg (by decide +kernel)]; exact ⟨rfl, rfl⟩))
    (fun os started H enc _ => setWins_lifted os started H enc)
end Go.Proofs.YtkjijbogbelilaaGreat
