/- The law RegisterTurns returns true at every input, and leaves its arguments as they were. No condition. -/
import Derived.Test.YtkjijbogbelilaaGreatTd2
namespace Go.Proofs.YtkjijbogbelilaaGreat
open Go.ChangeShapes Go.WideShapes Go.ChangeAt Go.RowKit
set_option maxRecDepth 100000

theorem registerTurns_lifted (os : Os) (started : os.Started) (H : Type) (enc : TypeId × Value → H) :
    ReturnsInHanded {} Tryz.checked os 16 .any (Rows.registerTurnsSpec.pre6 enc Tryz.prog Tryz.f16 Rows.registerTurnsRow.domain false) (Rows.registerTurnsSpec.post enc Tryz.prog Tryz.f16 false true false false) := by
  refine returnsInHanded_of_change_sized (C := Tryz.checked) own started (by kernel_rfl) Tryz.func16
    (ChangeSpec.witness6 (enc := enc) (C := Tryz.checked) false ⟨#[], #[.agg #[.slice none 0 0, .slice none 0 0], .string ByteArray.empty, .agg #[.int .i64 0, .int .i64 0]], []⟩ 8 (by kernel_rfl) (by kernel_rfl) (by kernel_rfl) (by kernel_rfl)) ?_
  intro W base args ds gs before hval0 hW _ hsz0 _
  have hsz : (DataW.weightsEach Tryz.prog (Tryz.f16.params.toList ++ Rows.registerTurnsSpec.plain.varTypes Tryz.prog) (ds ++ gs)).all (· ≤ reachBytes) = true := hsz0
  clear hsz0
  have hval : ∀ (j : Nat) t v, Tryz.f16.params[j]? = some t → args[j]? = some v → Value.okWide Tryz.prog W .any base t v := hval0
  have hW' := hW
  obtain ⟨p, q, hA0, hV, rfl, _, _⟩ := hW
  have hA : DataW.TrodAll enc Tryz.prog W 0 (fun _ => true) true Tryz.f16.params.toList args.toList ds p := hA0
  rw [Tryz.params16] at hA hval hsz
  have hAll := hA
  have hlt : ∀ x ∈ p, x.block < W.heap.size := fun x hx => hW'.lt x (List.mem_append_left _ hx)
  obtain ⟨v0, v1, v2, d0, d1, d2, p0, p1, p2, rfl, rfl, rfl, h0, h1, h2⟩ := trodAll_three hA
  obtain ⟨rfl, rfl⟩ := trodVars_none hV
  clear hA0 hval0
  simp only [List.append_nil] at hW'
  obtain ⟨t0, ve0, vk0, rfl, ht0⟩ := tree_arg (hval 0 25 v0 rfl rfl) h0 (fun m hm => by
    have := List.all_eq_true.1 hsz m (DataW.weights_mem_each (j := 0) (t := 25) (d := d0) rfl rfl m hm)
    simpa using this)
  obtain ⟨s1, rfl, hs1⟩ := str_arg (hval 1 9 v1 rfl rfl) h1 (fun m hm => by
    have := List.all_eq_true.1 hsz m (DataW.weights_mem_each (j := 1) (t := 9) (d := d1) rfl rfl m hm)
    simpa using this)
  obtain ⟨x2, rfl, hx2⟩ := dot_arg (hval 2 42 v2 rfl rfl) h2
  refine (lawRT_any t0 s1 x2 W ve0 vk0 ht0 hs1 hx2).mono fun e W' ⟨he, hb⟩ => ?_
  subst he
  have hargs := trodAll_below laidOut _ _ _ _ (fun t ht => by simp at ht; rcases ht with rfl | rfl | rfl <;> first | exact okTree | exact okString | exact okDot) hAll hb hlt
  exact ⟨_, rfl, _, _, _, [], _, [], hW', trodAll_mk1 (shut_bool Tryz.underlying4 _), hargs, rfl, hb.frame _, fun h => by cases h⟩

theorem registerTurns_j00 : (Rows.registerTurnsRow.wf (OpenSpec.ofChange Rows.registerTurnsSpec)) = true := by kernel_rfl
theorem registerTurns_j03 : (Tryz.f16.params.all (Tryz.pinned.checked.prog.readableRec ·)) = true := by kernel_rfl
theorem registerTurns_j04 : (namedTie Tryz.pinned.checked.prog Rows.registerTurnsRow.named Rows.registerTurnsSpec.vars) = true := by kernel_rfl
theorem registerTurns_j05 : ((Rows.registerTurnsRow.stops == [])) = true := by kernel_rfl
theorem registerTurns_j07 : ((Rows.registerTurnsRow.knobs == [])) = true := by kernel_rfl
theorem registerTurns_j09 : ((Rows.registerTurnsRow.inPlace == Tryz.pinned.checked.prog.inPlace 16)) = true := by kernel_rfl
theorem registerTurns_j10 : ((Rows.registerTurnsRow.unfollowed == Tryz.pinned.checked.prog.unfollowed 16)) = true := by kernel_rfl
theorem registerTurns_j11 : ((Rows.registerTurnsRow.recurses == Tryz.pinned.checked.prog.recurses 16)) = true := by kernel_rfl
theorem registerTurns_j12 : ((Rows.registerTurnsRow.named == Tryz.pinned.checked.prog.varsNamed 16)) = true := by kernel_rfl
theorem registerTurns_j13 : ((Rows.registerTurnsRow.maps == (Tryz.f16.params.toList ++ Rows.registerTurnsSpec.plain.varTypes Tryz.pinned.checked.prog).any (Tryz.pinned.checked.prog.mapsRec ·))) = true := by kernel_rfl
theorem registerTurns_j14 : ((Rows.registerTurnsRow.ifaces == (Tryz.f16.params.toList ++ Rows.registerTurnsSpec.plain.varTypes Tryz.pinned.checked.prog).any (Tryz.pinned.checked.prog.ifacesRec ·))) = true := by kernel_rfl
theorem registerTurns_j15 : ((Rows.registerTurnsRow.mapsOut == Tryz.pinned.checked.prog.mapsAmong Tryz.f16.resultTypes.toList)) = true := by kernel_rfl
theorem registerTurns_j16 : ((Rows.registerTurnsRow.loops == (Tryz.f16.params.toList ++ Rows.registerTurnsSpec.plain.varTypes Tryz.pinned.checked.prog).any (Tryz.pinned.checked.prog.loopsFrom ·))) = true := by kernel_rfl
theorem registerTurns_j17 : ((Rows.registerTurnsRow.wideKeys == (Tryz.f16.params.toList ++ Rows.registerTurnsSpec.plain.varTypes Tryz.pinned.checked.prog ++ Tryz.f16.resultTypes.toList).any (Tryz.pinned.checked.prog.wideKeysFrom ·))) = true := by kernel_rfl
theorem registerTurns_j18 : (Rows.registerTurnsSpec.vars.all (Tryz.pinned.checked.prog.varReadable ·)) = true := by kernel_rfl
theorem registerTurns_j19 : (Tryz.f16.resultTypes.all (fun t => Tryz.pinned.checked.prog.readableRec t && decide (t < Tryz.pinned.checked.prog.types.size))) = true := by kernel_rfl
theorem registerTurns_j20 : ((Rows.registerTurnsRow.ifacesOut == Tryz.f16.resultTypes.toList.any (Tryz.pinned.checked.prog.ifacesRec ·))) = true := by kernel_rfl
theorem registerTurns_j21 : ((Rows.registerTurnsRow.loopsOut == Tryz.f16.resultTypes.toList.any (Tryz.pinned.checked.prog.loopsFrom ·))) = true := by kernel_rfl
theorem registerTurns_j22 : ((Rows.registerTurnsRow.plainKeys == Tryz.pinned.checked.prog.plainKeys)) = true := by kernel_rfl
theorem registerTurns_j23 : (Rows.registerTurnsRow.shortTexts.isNone) = true := by kernel_rfl
theorem registerTurns_j26 : ((Rows.registerTurnsRow.lifted == Tryz.pinned.checked.prog.liftsFinal)) = true := by rw [headFinal]; kernel_rfl
theorem registerTurns_j27 : ((Tryz.pinned.checked.prog.make == some Rows.registerTurnsRow.make)) = true := by rw [headMake]; kernel_rfl
theorem registerTurns_j28 : ((Rows.registerTurnsRow.kinds == (if Rows.registerTurnsRow.domain.isEmpty then [] else Tryz.f16.params.toList.map fun t => match Tryz.pinned.checked.prog.underlying t with | some (.int k) => some k | _ => none))) = true := by kernel_rfl
theorem registerTurns_j29 : ((Rows.registerTurnsRow.pinned == Rows.registerTurnsRow.pinnedBy)) = true := by kernel_rfl
theorem registerTurns_j30 : ((Rows.registerTurnsRow.veiled == (Tryz.f16.params.toList ++ Rows.registerTurnsSpec.plain.varTypes Tryz.pinned.checked.prog ++ Tryz.f16.resultTypes.toList).any (Tryz.pinned.checked.prog.veiledRec ·))) = true := by kernel_rfl
theorem registerTurns_j31 : (Rows.registerTurnsRow.veiledFits Tryz.pinned.checked.prog Tryz.f16.params.toList (Tryz.f16.params.toList ++ Rows.registerTurnsSpec.plain.varTypes Tryz.pinned.checked.prog ++ Tryz.f16.resultTypes.toList)) = true := by kernel_rfl
theorem registerTurns_closed : joinedFacts Tryz.pinned.checked.prog 16 Tryz.f16 Rows.registerTurnsSpec Rows.registerTurnsRow = true :=
  and2 (and2 (and2 (and2 (and2 (and2 (and2 (and2 (and2 (and2 (and2 (and2 (and2 (and2 (and2 (and2 (and2 (and2 (and2 (and2 (and2 (and2 (and2 (and2 (and2 (and2 (and2 (and2 (and2 (and2 (and2 (registerTurns_j00) closedP01) closedP02) registerTurns_j03) registerTurns_j04) registerTurns_j05) closedP06) registerTurns_j07) closedP08) registerTurns_j09) registerTurns_j10) registerTurns_j11) registerTurns_j12) registerTurns_j13) registerTurns_j14) registerTurns_j15) registerTurns_j16) registerTurns_j17) registerTurns_j18) registerTurns_j19) registerTurns_j20) registerTurns_j21) registerTurns_j22) registerTurns_j23) closedP24) closedP25) registerTurns_j26) registerTurns_j27) registerTurns_j28) registerTurns_j29) registerTurns_j30) registerTurns_j31

theorem registerTurns_holds : Rows.RegisterTurnsSaid :=
  OpenClaim.holds_of_wide 16 Tryz.f16 rfl rfl rfl rfl rfl rfl rfl ⟨rfl, rfl, rfl, rfl, rfl⟩ rfl rfl rfl rfl rfl (by kernel_rfl) Tryz.func16 registerTurns_closed
    (of_decide_eq_true (by kernel_rfl)) (by unfold Func.isWrapper; first | (rw [if_pos (by decide +kernel)]; kernel_rfl) | (rw [if_neg (by decide +kernel)]; exact ⟨rfl, rfl⟩))
    (fun os started H enc _ => registerTurns_lifted os started H enc)
end Go.Proofs.YtkjijbogbelilaaGreat
