/- The law CounterTurns returns true at every input, and leaves its arguments as they were. No condition. -/
import Derived.Test.YtkjijbogbelilaaGreatTf1
namespace Go.Proofs.YtkjijbogbelilaaGreat
open Go.ChangeShapes Go.WideShapes Go.ChangeAt Go.RowKit
set_option maxRecDepth 100000

theorem counterTurns_lifted (os : Os) (started : os.Started) (H : Type) (enc : TypeId × Value → H) :
    ReturnsInHanded {} Tryz.checked os 14 .any (Rows.counterTurnsSpec.pre6 enc Tryz.prog Tryz.f14 Rows.counterTurnsRow.domain false) (Rows.counterTurnsSpec.post enc Tryz.prog Tryz.f14 false true false false) := by
  refine returnsInHanded_of_change_sized (C := Tryz.checked) own started (by kernel_rfl) Tryz.func14
    (ChangeSpec.witness6 (enc := enc) (C := Tryz.checked) false ⟨#[], #[.agg #[.slice none 0 0, .slice none 0 0], .int .i64 0, .agg #[.int .i64 0, .int .i64 0]], []⟩ 8 (by kernel_rfl) (by kernel_rfl) (by kernel_rfl) (by kernel_rfl)) ?_
  intro W base args ds gs before hval0 hW _ hsz0 _
  have hsz : (DataW.weightsEach Tryz.prog (Tryz.f14.params.toList ++ Rows.counterTurnsSpec.plain.varTypes Tryz.prog) (ds ++ gs)).all (· ≤ reachBytes) = true := hsz0
  clear hsz0
  have hval : ∀ (j : Nat) t v, Tryz.f14.params[j]? = some t → args[j]? = some v → Value.okWide Tryz.prog W .any base t v := hval0
  have hW' := hW
  obtain ⟨p, q, hA0, hV, rfl, _, _⟩ := hW
  have hA : DataW.TrodAll enc Tryz.prog W 0 (fun _ => true) true Tryz.f14.params.toList args.toList ds p := hA0
  rw [Tryz.params14] at hA hval hsz
  have hAll := hA
  have hlt : ∀ x ∈ p, x.block < W.heap.size := fun x hx => hW'.lt x (List.mem_append_left _ hx)
  obtain ⟨v0, v1, v2, d0, d1, d2, p0, p1, p2, rfl, rfl, rfl, h0, h1, h2⟩ := trodAll_three hA
  obtain ⟨rfl, rfl⟩ := trodVars_none hV
  clear hA0 hval0
  simp only [List.append_nil] at hW'
  obtain ⟨t0, ve0, vk0, rfl, ht0⟩ := tree_arg (hval 0 25 v0 rfl rfl) h0 (fun m hm => by
    have := List.all_eq_true.1 hsz m (DataW.weights_mem_each (j := 0) (t := 25) (d := d0) rfl rfl m hm)
    simpa using this)
  obtain ⟨n1, rfl, hn1⟩ := int_arg (hval 1 2 v1 rfl rfl) h1
  obtain ⟨x2, rfl, hx2⟩ := dot_arg (hval 2 42 v2 rfl rfl) h2
  refine (lawCU_any t0 n1 x2 W ve0 vk0 ht0 hn1 hx2).mono fun e W' ⟨he, hb⟩ => ?_
  subst he
  have hargs := trodAll_below laidOut _ _ _ _ (fun t ht => by simp at ht; rcases ht with rfl | rfl | rfl <;> first | exact okTree | exact okInt64 | exact okDot) hAll hb hlt
  exact ⟨_, rfl, _, _, _, [], _, [], hW', trodAll_mk1 (shut_bool Tryz.underlying4 _), hargs, rfl, hb.frame _, fun h => by cases h⟩

theorem counterTurns_j00 : (Rows.counterTurnsRow.wf (OpenSpec.ofChange Rows.counterTurnsSpec)) = true := by kernel_rfl
theorem counterTurns_j03 : (Tryz.f14.params.all (Tryz.pinned.checked.prog.readableRec ·)) = true := by kernel_rfl
theorem counterTurns_j04 : (namedTie Tryz.pinned.checked.prog Rows.counterTurnsRow.named Rows.counterTurnsSpec.vars) = true := by kernel_rfl
theorem counterTurns_j05 : ((Rows.counterTurnsRow.stops == [])) = true := by kernel_rfl
theorem counterTurns_j07 : ((Rows.counterTurnsRow.knobs == [])) = true := by kernel_rfl
theorem counterTurns_j09 : ((Rows.counterTurnsRow.inPlace == Tryz.pinned.checked.prog.inPlace 14)) = true := by kernel_rfl
theorem counterTurns_j10 : ((Rows.counterTurnsRow.unfollowed == Tryz.pinned.checked.prog.unfollowed 14)) = true := by kernel_rfl
theorem counterTurns_j11 : ((Rows.counterTurnsRow.recurses == Tryz.pinned.checked.prog.recurses 14)) = true := by kernel_rfl
theorem counterTurns_j12 : ((Rows.counterTurnsRow.named == Tryz.pinned.checked.prog.varsNamed 14)) = true := by kernel_rfl
theorem counterTurns_j13 : ((Rows.counterTurnsRow.maps == (Tryz.f14.params.toList ++ Rows.counterTurnsSpec.plain.varTypes Tryz.pinned.checked.prog).any (Tryz.pinned.checked.prog.mapsRec ·))) = true := by kernel_rfl
theorem counterTurns_j14 : ((Rows.counterTurnsRow.ifaces == (Tryz.f14.params.toList ++ Rows.counterTurnsSpec.plain.varTypes Tryz.pinned.checked.prog).any (Tryz.pinned.checked.prog.ifacesRec ·))) = true := by kernel_rfl
theorem counterTurns_j15 : ((Rows.counterTurnsRow.mapsOut == Tryz.pinned.checked.prog.mapsAmong Tryz.f14.resultTypes.toList)) = true := by kernel_rfl
theorem counterTurns_j16 : ((Rows.counterTurnsRow.loops == (Tryz.f14.params.toList ++ Rows.counterTurnsSpec.plain.varTypes Tryz.pinned.checked.prog).any (Tryz.pinned.checked.prog.loopsFrom ·))) = true := by kernel_rfl
theorem counterTurns_j17 : ((Rows.counterTurnsRow.wideKeys == (Tryz.f14.params.toList ++ Rows.counterTurnsSpec.plain.varTypes Tryz.pinned.checked.prog ++ Tryz.f14.resultTypes.toList).any (Tryz.pinned.checked.prog.wideKeysFrom ·))) = true := by kernel_rfl
theorem counterTurns_j18 : (Rows.counterTurnsSpec.vars.all (Tryz.pinned.checked.prog.varReadable ·)) = true := by kernel_rfl
theorem counterTurns_j19 : (Tryz.f14.resultTypes.all (fun t => Tryz.pinned.checked.prog.readableRec t && decide (t < Tryz.pinned.checked.prog.types.size))) = true := by kernel_rfl
theorem counterTurns_j20 : ((Rows.counterTurnsRow.ifacesOut == Tryz.f14.resultTypes.toList.any (Tryz.pinned.checked.prog.ifacesRec ·))) = true := by kernel_rfl
theorem counterTurns_j21 : ((Rows.counterTurnsRow.loopsOut == Tryz.f14.resultTypes.toList.any (Tryz.pinned.checked.prog.loopsFrom ·))) = true := by kernel_rfl
theorem counterTurns_j22 : ((Rows.counterTurnsRow.plainKeys == Tryz.pinned.checked.prog.plainKeys)) = true := by kernel_rfl
theorem counterTurns_j23 : (Rows.counterTurnsRow.shortTexts.isNone) = true := by kernel_rfl
theorem counterTurns_j26 : ((Rows.counterTurnsRow.lifted == Tryz.pinned.checked.prog.liftsFinal)) = true := by rw [headFinal]; kernel_rfl
theorem counterTurns_j27 : ((Tryz.pinned.checked.prog.make == some Rows.counterTurnsRow.make)) = true := by rw [headMake]; kernel_rfl
theorem counterTurns_j28 : ((Rows.counterTurnsRow.kinds == (if Rows.counterTurnsRow.domain.isEmpty then [] else Tryz.f14.params.toList.map fun t => match Tryz.pinned.checked.prog.underlying t with | some (.int k) => some k | _ => none))) = true := by kernel_rfl
theorem counterTurns_j29 : ((Rows.counterTurnsRow.pinned == Rows.counterTurnsRow.pinnedBy)) = true := by kernel_rfl
theorem counterTurns_j30 : ((Rows.counterTurnsRow.veiled == (Tryz.f14.params.toList ++ Rows.counterTurnsSpec.plain.varTypes Tryz.pinned.checked.prog ++ Tryz.f14.resultTypes.toList).any (Tryz.pinned.checked.prog.veiledRec ·))) = true := by kernel_rfl
theorem counterTurns_j31 : (Rows.counterTurnsRow.veiledFits Tryz.pinned.checked.prog Tryz.f14.params.toList (Tryz.f14.params.toList ++ Rows.counterTurnsSpec.plain.varTypes Tryz.pinned.checked.prog ++ Tryz.f14.resultTypes.toList)) = true := by kernel_rfl
theorem counterTurns_closed : joinedFacts Tryz.pinned.checked.prog 14 Tryz.f14 Rows.counterTurnsSpec Rows.counterTurnsRow = true :=
  and2 (and2 (and2 (and2 (and2 (and2 (and2 (and2 (and2 (and2 (and2 (and2 (and2 (and2 (and2 (and2 (and2 (and2 (and2 (and2 (and2 (and2 (and2 (and2 (and2 (and2 (and2 (and2 (and2 (and2 (and2 (counterTurns_j00) closedP01) closedP02) counterTurns_j03) counterTurns_j04) counterTurns_j05) closedP06) counterTurns_j07) closedP08) counterTurns_j09) counterTurns_j10) counterTurns_j11) counterTurns_j12) counterTurns_j13) counterTurns_j14) counterTurns_j15) counterTurns_j16) counterTurns_j17) counterTurns_j18) counterTurns_j19) counterTurns_j20) counterTurns_j21) counterTurns_j22) counterTurns_j23) closedP24) closedP25) counterTurns_j26) counterTurns_j27) counterTurns_j28) counterTurns_j29) counterTurns_j30) counterTurns_j31

theorem counterTurns_holds : Rows.CounterTurnsSaid :=
  OpenClaim.holds_of_wide 14 Tryz.f14 rfl rfl rfl rfl rfl rfl rfl ⟨rfl, rfl, rfl, rfl, rfl⟩ rfl rfl rfl rfl rfl (by kernel_rfl) Tryz.func14 counterTurns_closed
    (of_decide_eq_true (by kernel_rfl)) (by unfold Func.isWrapper; first | (rw [if_pos (by decide +kernel)]; kernel_rfl) | (rw [if_neg (by decide +kernel)]; exact ⟨rfl, rfl⟩))
    (fun os started H enc _ => counterTurns_lifted os started H enc)
end Go.Proofs.YtkjijbogbelilaaGreat
