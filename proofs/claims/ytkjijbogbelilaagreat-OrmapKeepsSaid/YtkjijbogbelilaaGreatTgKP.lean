/- The law OrmapKeeps returns true at every input, and leaves its arguments as they were. No condition. -/
import Derived.Test.YtkjijbogbelilaaGreatTg1
namespace Go.Proofs.YtkjijbogbelilaaGreat
open Go.ChangeShapes Go.WideShapes Go.ChangeAt Go.RowKit
set_option maxRecDepth 100000

theorem ormapKeeps_lifted (os : Os) (started : os.Started) (H : Type) (enc : TypeId × Value → H) :
    ReturnsInHanded {} Tryz.checked os 22 .any (Rows.ormapKeepsSpec.pre6 enc Tryz.prog Tryz.f22 Rows.ormapKeepsRow.domain false) (Rows.ormapKeepsSpec.post enc Tryz.prog Tryz.f22 false true false false) := by
  refine returnsInHanded_of_change_sized (C := Tryz.checked) own started (by kernel_rfl) Tryz.func22
    (ChangeSpec.witness6 (enc := enc) (C := Tryz.checked) false ⟨#[], #[.agg #[.slice none 0 0, .slice none 0 0], .string ByteArray.empty, .agg #[.int .i64 0, .int .i64 0], .agg #[.int .i64 0, .int .i64 0]], []⟩ 8 (by kernel_rfl) (by kernel_rfl) (by kernel_rfl) (by kernel_rfl)) ?_
  intro W base args ds gs before hval0 hW _ hsz0 _
  have hsz : (DataW.weightsEach Tryz.prog (Tryz.f22.params.toList ++ Rows.ormapKeepsSpec.plain.varTypes Tryz.prog) (ds ++ gs)).all (· ≤ reachBytes) = true := hsz0
  clear hsz0
  have hval : ∀ (j : Nat) t v, Tryz.f22.params[j]? = some t → args[j]? = some v → Value.okWide Tryz.prog W .any base t v := hval0
  have hW' := hW
  obtain ⟨p, q, hA0, hV, rfl, _, _⟩ := hW
  have hA : DataW.TrodAll enc Tryz.prog W 0 (fun _ => true) true Tryz.f22.params.toList args.toList ds p := hA0
  rw [Tryz.params22] at hA hval hsz
  have hAll := hA
  have hlt : ∀ x ∈ p, x.block < W.heap.size := fun x hx => hW'.lt x (List.mem_append_left _ hx)
  obtain ⟨v0, v1, v2, v3, d0, d1, d2, d3, p0, p1, p2, p3, rfl, rfl, rfl, h0, h1, h2, h3⟩ := trodAll_four hA
  obtain ⟨rfl, rfl⟩ := trodVars_none hV
  clear hA0 hval0
  simp only [List.append_nil] at hW'
  obtain ⟨t0, ve0, vk0, rfl, ht0⟩ := tree_arg (hval 0 25 v0 rfl rfl) h0 (fun m hm => by
    have := List.all_eq_true.1 hsz m (DataW.weights_mem_each (j := 0) (t := 25) (d := d0) rfl rfl m hm)
    simpa using this)
  obtain ⟨s1, rfl, hs1⟩ := str_arg (hval 1 9 v1 rfl rfl) h1 (fun m hm => by
    have := List.all_eq_true.1 hsz m (DataW.weights_mem_each (j := 1) (t := 9) (d := d1) rfl rfl m hm)
    simpa using this)
  obtain ⟨x2, rfl, hx2⟩ := dot_arg (hval 2 42 v2 rfl rfl) h2
  obtain ⟨x3, rfl, hx3⟩ := dot_arg (hval 3 42 v3 rfl rfl) h3
  refine (lawKP_any t0 s1 x2 x3 W ve0 vk0 ht0 hs1 hx2 hx3).mono fun e W' ⟨he, hb⟩ => ?_
  subst he
  have hargs := trodAll_below laidOut _ _ _ _ (fun t ht => by simp at ht; rcases ht with rfl | rfl | rfl | rfl <;> first | exact okTree | exact okString | exact okDot) hAll hb hlt
  exact ⟨_, rfl, _, _, _, [], _, [], hW', trodAll_mk1 (shut_bool Tryz.underlying4 _), hargs, rfl, hb.frame _, fun h => by cases h⟩

theorem ormapKeeps_j00 : (Rows.ormapKeepsRow.wf (OpenSpec.ofChange Rows.ormapKeepsSpec)) = true := by kernel_rfl
theorem ormapKeeps_j03 : (Tryz.f22.params.all (Tryz.pinned.checked.prog.readableRec ·)) = true := by kernel_rfl
theorem ormapKeeps_j04 : (namedTie Tryz.pinned.checked.prog Rows.ormapKeepsRow.named Rows.ormapKeepsSpec.vars) = true := by kernel_rfl
theorem ormapKeeps_j05 : ((Rows.ormapKeepsRow.stops == [])) = true := by kernel_rfl
theorem ormapKeeps_j07 : ((Rows.ormapKeepsRow.knobs == [])) = true := by kernel_rfl
theorem ormapKeeps_j09 : ((Rows.ormapKeepsRow.inPlace == Tryz.pinned.checked.prog.inPlace 22)) = true := by kernel_rfl
theorem ormapKeeps_j10 : ((Rows.ormapKeepsRow.unfollowed == Tryz.pinned.checked.prog.unfollowed 22)) = true := by kernel_rfl
theorem ormapKeeps_j11 : ((Rows.ormapKeepsRow.recurses == Tryz.pinned.checked.prog.recurses 22)) = true := by kernel_rfl
theorem ormapKeeps_j12 : ((Rows.ormapKeepsRow.named == Tryz.pinned.checked.prog.varsNamed 22)) = true := by kernel_rfl
theorem ormapKeeps_j13 : ((Rows.ormapKeepsRow.maps == (Tryz.f22.params.toList ++ Rows.ormapKeepsSpec.plain.varTypes Tryz.pinned.checked.prog).any (Tryz.pinned.checked.prog.mapsRec ·))) = true := by kernel_rfl
theorem ormapKeeps_j14 : ((Rows.ormapKeepsRow.ifaces == (Tryz.f22.params.toList ++ Rows.ormapKeepsSpec.plain.varTypes Tryz.pinned.checked.prog).any (Tryz.pinned.checked.prog.ifacesRec ·))) = true := by kernel_rfl
theorem ormapKeeps_j15 : ((Rows.ormapKeepsRow.mapsOut == Tryz.pinned.checked.prog.mapsAmong Tryz.f22.resultTypes.toList)) = true := by kernel_rfl
theorem ormapKeeps_j16 : ((Rows.ormapKeepsRow.loops == (Tryz.f22.params.toList ++ Rows.ormapKeepsSpec.plain.varTypes Tryz.pinned.checked.prog).any (Tryz.pinned.checked.prog.loopsFrom ·))) = true := by kernel_rfl
theorem ormapKeeps_j17 : ((Rows.ormapKeepsRow.wideKeys == (Tryz.f22.params.toList ++ Rows.ormapKeepsSpec.plain.varTypes Tryz.pinned.checked.prog ++ Tryz.f22.resultTypes.toList).any (Tryz.pinned.checked.prog.wideKeysFrom ·))) = true := by kernel_rfl
theorem ormapKeeps_j18 : (Rows.ormapKeepsSpec.vars.all (Tryz.pinned.checked.prog.varReadable ·)) = true := by kernel_rfl
theorem ormapKeeps_j19 : (Tryz.f22.resultTypes.all (fun t => Tryz.pinned.checked.prog.readableRec t && decide (t < Tryz.pinned.checked.prog.types.size))) = true := by kernel_rfl
theorem ormapKeeps_j20 : ((Rows.ormapKeepsRow.ifacesOut == Tryz.f22.resultTypes.toList.any (Tryz.pinned.checked.prog.ifacesRec ·))) = true := by kernel_rfl
theorem ormapKeeps_j21 : ((Rows.ormapKeepsRow.loopsOut == Tryz.f22.resultTypes.toList.any (Tryz.pinned.checked.prog.loopsFrom ·))) = true := by kernel_rfl
theorem ormapKeeps_j22 : ((Rows.ormapKeepsRow.plainKeys == Tryz.pinned.checked.prog.plainKeys)) = true := by kernel_rfl
theorem ormapKeeps_j23 : (Rows.ormapKeepsRow.shortTexts.isNone) = true := by kernel_rfl
theorem ormapKeeps_j26 : ((Rows.ormapKeepsRow.lifted == Tryz.pinned.checked.prog.liftsFinal)) = true := by rw [headFinal]; kernel_rfl
theorem ormapKeeps_j27 : ((Tryz.pinned.checked.prog.make == some Rows.ormapKeepsRow.make)) = true := by rw [headMake]; kernel_rfl
theorem ormapKeeps_j28 : ((Rows.ormapKeepsRow.kinds == (if Rows.ormapKeepsRow.domain.isEmpty then [] else Tryz.f22.params.toList.map fun t => match Tryz.pinned.checked.prog.underlying t with | some (.int k) => some k | _ => none))) = true := by kernel_rfl
theorem ormapKeeps_j29 : ((Rows.ormapKeepsRow.pinned == Rows.ormapKeepsRow.pinnedBy)) = true := by kernel_rfl
theorem ormapKeeps_j30 : ((Rows.ormapKeepsRow.veiled == (Tryz.f22.params.toList ++ Rows.ormapKeepsSpec.plain.varTypes Tryz.pinned.checked.prog ++ Tryz.f22.resultTypes.toList).any (Tryz.pinned.checked.prog.veiledRec ·))) = true := by kernel_rfl
theorem ormapKeeps_j31 : (Rows.ormapKeepsRow.veiledFits Tryz.pinned.checked.prog Tryz.f22.params.toList (Tryz.f22.params.toList ++ Rows.ormapKeepsSpec.plain.varTypes Tryz.pinned.checked.prog ++ Tryz.f22.resultTypes.toList)) = true := by kernel_rfl
theorem ormapKeeps_closed : joinedFacts Tryz.pinned.checked.prog 22 Tryz.f22 Rows.ormapKeepsSpec Rows.ormapKeepsRow = true :=
  and2 (and2 (and2 (and2 (and2 (and2 (and2 (and2 (and2 (and2 (and2 (and2 (and2 (and2 (and2 (and2 (and2 (and2 (and2 (and2 (and2 (and2 (and2 (and2 (and2 (and2 (and2 (and2 (and2 (and2 (and2 (ormapKeeps_j00) closedP01) closedP02) ormapKeeps_j03) ormapKeeps_j04) ormapKeeps_j05) closedP06) ormapKeeps_j07) closedP08) ormapKeeps_j09) ormapKeeps_j10) ormapKeeps_j11) ormapKeeps_j12) ormapKeeps_j13) ormapKeeps_j14) ormapKeeps_j15) ormapKeeps_j16) ormapKeeps_j17) ormapKeeps_j18) ormapKeeps_j19) ormapKeeps_j20) ormapKeeps_j21) ormapKeeps_j22) ormapKeeps_j23) closedP24) closedP25) ormapKeeps_j26) ormapKeeps_j27) ormapKeeps_j28) ormapKeeps_j29) ormapKeeps_j30) ormapKeeps_j31

theorem ormapKeeps_holds : Rows.OrmapKeepsSaid :=
  OpenClaim.holds_of_wide 22 Tryz.f22 rfl rfl rfl rfl rfl rfl rfl ⟨rfl, rfl, rfl, rfl, rfl⟩ rfl rfl rfl rfl rfl (by kernel_rfl) Tryz.func22 ormapKeeps_closed
    (of_decide_eq_true (by kernel_rfl)) (by unfold Func.isWrapper; first | (rw [if_pos (by decide +kernel)]; kernel_rfl) | (rw [if_neg (by decide +kernel)]; exact ⟨rfl, rfl⟩))
    (fun os started H enc _ => ormapKeeps_lifted os started H enc)
end Go.Proofs.YtkjijbogbelilaaGreat
