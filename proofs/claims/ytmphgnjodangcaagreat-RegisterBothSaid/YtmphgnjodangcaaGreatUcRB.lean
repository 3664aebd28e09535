/- The law RegisterBoth returns true at every input, and leaves its arguments as they were. No condition. -/
import Derived.Test.YtmphgnjodangcaaGreatUc2
namespace Go.Proofs.YtmphgnjodangcaaGreat
open Go.ChangeShapes Go.WideShapes Go.ChangeAt Go.RowKit
set_option maxRecDepth 100000

theorem registerBoth_lifted (os : Os) (started : os.Started) (H : Type) (enc : TypeId × Value → H) :
    ReturnsInHanded {} Tryz.checked os 7 .any (Rows.registerBothSpec.pre6 enc Tryz.prog Tryz.f7 Rows.registerBothRow.domain false) (Rows.registerBothSpec.post enc Tryz.prog Tryz.f7 false true false false) := by
  refine returnsInHanded_of_change_sized (C := Tryz.checked) own started (by kernel_rfl) Tryz.func7
    (ChangeSpec.witness6 (enc := enc) (C := Tryz.checked) false ⟨#[], #[.agg #[.slice none 0 0, .slice none 0 0], .agg #[.string ByteArray.empty, .string ByteArray.empty, .string ByteArray.empty], .agg #[.int .i64 0, .int .i64 0, .int .i64 0, .int .i64 0, .int .i64 0, .int .i64 0]], []⟩ 8 (by kernel_rfl) (by kernel_rfl) (by kernel_rfl) (by kernel_rfl)) ?_
  intro W base args ds gs before hval0 hW _ hsz0 _
  have hsz : (DataW.weightsEach Tryz.prog (Tryz.f7.params.toList ++ Rows.registerBothSpec.plain.varTypes Tryz.prog) (ds ++ gs)).all (· ≤ reachBytes) = true := hsz0
  clear hsz0
  have hval : ∀ (j : Nat) t v, Tryz.f7.params[j]? = some t → args[j]? = some v → Value.okWide Tryz.prog W .any base t v := hval0
  have hW' := hW
  obtain ⟨p, q, hA0, hV, rfl, _, _⟩ := hW
  have hA : DataW.TrodAll enc Tryz.prog W 0 (fun _ => true) true Tryz.f7.params.toList args.toList ds p := hA0
  rw [Tryz.params7] at hA hval hsz
  have hAll := hA
  have hlt : ∀ x ∈ p, x.block < W.heap.size := fun x hx => hW'.lt x (List.mem_append_left _ hx)
  obtain ⟨v0, v1, v2, d0, d1, d2, p0, p1, p2, rfl, rfl, rfl, h0, h1, h2⟩ := trodAll_three hA
  obtain ⟨rfl, rfl⟩ := trodVars_none hV
  clear hA0 hval0
  simp only [List.append_nil] at hW'
  obtain ⟨t0, ve0, vk0, rfl, ht0⟩ := tree_arg (hval 0 27 v0 rfl rfl) h0 (fun m hm => by
    have := List.all_eq_true.1 hsz m (DataW.weights_mem_each (j := 0) (t := 27) (d := d0) rfl rfl m hm)
    simpa using this)
  obtain ⟨a1, b1, c1, rfl, hs1⟩ := str3_arg (hval 1 59 v1 rfl rfl) h1 (fun m hm => by
    have := List.all_eq_true.1 hsz m (DataW.weights_mem_each (j := 1) (t := 59) (d := d1) rfl rfl m hm)
    simpa using this)
  obtain ⟨x2, y2, z2, rfl, hx2⟩ := dot3_arg (hval 2 60 v2 rfl rfl) h2
  refine (lawRB_any t0 a1 b1 c1 x2 y2 z2 W ve0 vk0 ht0 hs1 hx2).mono fun e W' ⟨he, hb⟩ => ?_
  subst he
  have hargs := trodAll_below laidOut _ _ _ _ (fun t ht => by simp at ht; rcases ht with rfl | rfl | rfl <;> first | exact okTree | exact okStr3 | exact okDot3) hAll hb hlt
  exact ⟨_, rfl, _, _, _, [], _, [], hW', trodAll_mk1 (shut_bool Tryz.underlying4 _), hargs, rfl, hb.frame _, fun h => by cases h⟩

theorem registerBoth_j00 : (Rows.registerBothRow.wf (OpenSpec.ofChange Rows.registerBothSpec)) = true := by kernel_rfl
theorem registerBoth_j03 : (Tryz.f7.params.all (Tryz.pinned.checked.prog.readableRec ·)) = true := by kernel_rfl
theorem registerBoth_j04 : (namedTie Tryz.pinned.checked.prog Rows.registerBothRow.named Rows.registerBothSpec.vars) = true := by kernel_rfl
theorem registerBoth_j05 : ((Rows.registerBothRow.stops == [])) = true := by kernel_rfl
theorem registerBoth_j07 : ((Rows.registerBothRow.knobs == [])) = true := by kernel_rfl
theorem registerBoth_j09 : ((Rows.registerBothRow.inPlace == Tryz.pinned.checked.prog.inPlace 7)) = true := by kernel_rfl
theorem registerBoth_j10 : ((Rows.registerBothRow.unfollowed == Tryz.pinned.checked.prog.unfollowed 7)) = true := by kernel_rfl
theorem registerBoth_j11 : ((Rows.registerBothRow.recurses == Tryz.pinned.checked.prog.recurses 7)) = true := by kernel_rfl
theorem registerBoth_j12 : ((Rows.registerBothRow.named == Tryz.pinned.checked.prog.varsNamed 7)) = true := by kernel_rfl
theorem registerBoth_j13 : ((Rows.registerBothRow.maps == (Tryz.f7.params.toList ++ Rows.registerBothSpec.plain.varTypes Tryz.pinned.checked.prog).any (Tryz.pinned.checked.prog.mapsRec ·))) = true := by kernel_rfl
theorem registerBoth_j14 : ((Rows.registerBothRow.ifaces == (Tryz.f7.params.toList ++ Rows.registerBothSpec.plain.varTypes Tryz.pinned.checked.prog).any (Tryz.pinned.checked.prog.ifacesRec ·))) = true := by kernel_rfl
theorem registerBoth_j15 : ((Rows.registerBothRow.mapsOut == Tryz.pinned.checked.prog.mapsAmong Tryz.f7.resultTypes.toList)) = true := by kernel_rfl
theorem registerBoth_j16 : ((Rows.registerBothRow.loops == (Tryz.f7.params.toList ++ Rows.registerBothSpec.plain.varTypes Tryz.pinned.checked.prog).any (Tryz.pinned.checked.prog.loopsFrom ·))) = true := by kernel_rfl
theorem registerBoth_j17 : ((Rows.registerBothRow.wideKeys == (Tryz.f7.params.toList ++ Rows.registerBothSpec.plain.varTypes Tryz.pinned.checked.prog ++ Tryz.f7.resultTypes.toList).any (Tryz.pinned.checked.prog.wideKeysFrom ·))) = true := by kernel_rfl
theorem registerBoth_j18 : (Rows.registerBothSpec.vars.all (Tryz.pinned.checked.prog.varReadable ·)) = true := by kernel_rfl
theorem registerBoth_j19 : (Tryz.f7.resultTypes.all (fun t => Tryz.pinned.checked.prog.readableRec t && decide (t < Tryz.pinned.checked.prog.types.size))) = true := by kernel_rfl
theorem registerBoth_j20 : ((Rows.registerBothRow.ifacesOut == Tryz.f7.resultTypes.toList.any (Tryz.pinned.checked.prog.ifacesRec ·))) = true := by kernel_rfl
theorem registerBoth_j21 : ((Rows.registerBothRow.loopsOut == Tryz.f7.resultTypes.toList.any (Tryz.pinned.checked.prog.loopsFrom ·))) = true := by kernel_rfl
theorem registerBoth_j22 : ((Rows.registerBothRow.plainKeys == Tryz.pinned.checked.prog.plainKeys)) = true := by kernel_rfl
theorem registerBoth_j23 : (Rows.registerBothRow.shortTexts.isNone) = true := by kernel_rfl
theorem registerBoth_j26 : ((Rows.registerBothRow.lifted == Tryz.pinned.checked.prog.liftsFinal)) = true := by rw [headFinal]; kernel_rfl
theorem registerBoth_j27 : ((Tryz.pinned.checked.prog.make == some Rows.registerBothRow.make)) = true := by rw [headMake]; kernel_rfl
theorem registerBoth_j28 : ((Rows.registerBothRow.kinds == (if Rows.registerBothRow.domain.isEmpty then [] else Tryz.f7.params.toList.map fun t => match Tryz.pinned.checked.prog.underlying t with | some (.int k) => some k | _ => none))) = true := by kernel_rfl
theorem registerBoth_j29 : ((Rows.registerBothRow.pinned == Rows.registerBothRow.pinnedBy)) = true := by kernel_rfl
theorem registerBoth_j30 : ((Rows.registerBothRow.veiled == (Tryz.f7.params.toList ++ Rows.registerBothSpec.plain.varTypes Tryz.pinned.checked.prog ++ Tryz.f7.resultTypes.toList).any (Tryz.pinned.checked.prog.veiledRec ·))) = true := by kernel_rfl
theorem registerBoth_j31 : (Rows.registerBothRow.veiledFits Tryz.pinned.checked.prog Tryz.f7.params.toList (Tryz.f7.params.toList ++ Rows.registerBothSpec.plain.varTypes Tryz.pinned.checked.prog ++ Tryz.f7.resultTypes.toList)) = true := by kernel_rfl
theorem registerBoth_closed : joinedFacts Tryz.pinned.checked.prog 7 Tryz.f7 Rows.registerBothSpec Rows.registerBothRow = true :=
  and2 (and2 (and2 (and2 (and2 (and2 (and2 (and2 (and2 (and2 (and2 (and2 (and2 (and2 (and2 (and2 (and2 (and2 (and2 (and2 (and2 (and2 (and2 (and2 (and2 (and2 (and2 (and2 (and2 (and2 (and2 (registerBoth_j00) closedP01) closedP02) registerBoth_j03) registerBoth_j04) registerBoth_j05) closedP06) registerBoth_j07) closedP08) registerBoth_j09) registerBoth_j10) registerBoth_j11) registerBoth_j12) registerBoth_j13) registerBoth_j14) registerBoth_j15) registerBoth_j16) registerBoth_j17) registerBoth_j18) registerBoth_j19) registerBoth_j20) registerBoth_j21) registerBoth_j22) registerBoth_j23) closedP24) closedP25) registerBoth_j26) registerBoth_j27) registerBoth_j28) registerBoth_j29) registerBoth_j30) registerBoth_j31

theorem registerBoth_holds : Rows.RegisterBothSaid :=
  OpenClaim.holds_of_wide 7 Tryz.f7 rfl rfl rfl rfl rfl rfl rfl ⟨rfl, rfl, rfl, rfl, rfl⟩ rfl rfl rfl rfl rfl (by kernel_rfl) Tryz.func7 registerBoth_closed
    (of_decide_eq_true (by kernel_rfl)) (by unfold Func.isWrapper; first | (rw [if_pos (by decide +kernel)]; kernel_rfl) | (rw [if_neg (by decide +kernel)]; exact ⟨rfl, rfl⟩))
    (fun os started H enc _ => registerBoth_lifted os started H enc)
end Go.Proofs.YtmphgnjodangcaaGreat
