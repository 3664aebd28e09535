/- The law SetBoth returns true at every input, and leaves its arguments as they were. No condition. -/
import Derived.Test.YtmphgnjodangcaaGreatUb3
namespace Go.Proofs.YtmphgnjodangcaaGreat
open Go.ChangeShapes Go.WideShapes Go.ChangeAt Go.RowKit
set_option maxRecDepth 100000

theorem setBoth_lifted (os : Os) (started : os.Started) (H : Type) (enc : TypeId × Value → H) :
    ReturnsInHanded {} Tryz.checked os 10 .any (Rows.setBothSpec.pre6 enc Tryz.prog Tryz.f10 Rows.setBothRow.domain false) (Rows.setBothSpec.post enc Tryz.prog Tryz.f10 false true false false) := by
  refine returnsInHanded_of_change_sized (C := Tryz.checked) own started (by kernel_rfl) Tryz.func10
    (ChangeSpec.witness6 (enc := enc) (C := Tryz.checked) false ⟨#[], #[.agg #[.slice none 0 0, .slice none 0 0], .agg #[.string ByteArray.empty, .string ByteArray.empty], .agg #[.int .i64 0, .int .i64 0, .int .i64 0, .int .i64 0, .int .i64 0, .int .i64 0]], []⟩ 8 (by kernel_rfl) (by kernel_rfl) (by kernel_rfl) (by kernel_rfl)) ?_
  intro W base args ds gs before hval0 hW _ hsz0 _
  have hsz : (DataW.weightsEach Tryz.prog (Tryz.f10.params.toList ++ Rows.setBothSpec.plain.varTypes Tryz.prog) (ds ++ gs)).all (· ≤ reachBytes) = true := hsz0
  clear hsz0
  have hval : ∀ (j : Nat) t v, Tryz.f10.params[j]? = some t → args[j]? = some v → Value.okWide Tryz.prog W .any base t v := hval0
  have hW' := hW
  obtain ⟨p, q, hA0, hV, rfl, _, _⟩ := hW
  have hA : DataW.TrodAll enc Tryz.prog W 0 (fun _ => true) true Tryz.f10.params.toList args.toList ds p := hA0
  rw [Tryz.params10] at hA hval hsz
  have hAll := hA
  have hlt : ∀ x ∈ p, x.block < W.heap.size := fun x hx => hW'.lt x (List.mem_append_left _ hx)
  obtain ⟨v0, v1, v2, d0, d1, d2, p0, p1, p2, rfl, rfl, rfl, h0, h1, h2⟩ := trodAll_three hA
  obtain ⟨rfl, rfl⟩ := trodVars_none hV
  clear hA0 hval0
  simp only [List.append_nil] at hW'
  obtain ⟨t0, ve0, vk0, rfl, ht0⟩ := tree_arg (hval 0 27 v0 rfl rfl) h0 (fun m hm => by
    have := List.all_eq_true.1 hsz m (DataW.weights_mem_each (j := 0) (t := 27) (d := d0) rfl rfl m hm)
    simpa using this)
  obtain ⟨a1, b1, rfl, hs1⟩ := str2_arg (hval 1 74 v1 rfl rfl) h1 (fun m hm => by
    have := List.all_eq_true.1 hsz m (DataW.weights_mem_each (j := 1) (t := 74) (d := d1) rfl rfl m hm)
    simpa using this)
  obtain ⟨x2, y2, z2, rfl, hx2⟩ := dot3_arg (hval 2 60 v2 rfl rfl) h2
  refine (lawSB_any t0 a1 b1 x2 y2 z2 W ve0 vk0 ht0 hs1 hx2).mono fun e W' ⟨he, hb⟩ => ?_
  subst he
  have hargs := trodAll_below laidOut _ _ _ _ (fun t ht => by simp at ht; rcases ht with rfl | rfl | rfl <;> first | exact okTree | exact okStr2 | exact okDot3) hAll hb hlt
  exact ⟨_, rfl, _, _, _, [], _, [], hW', trodAll_mk1 (shut_bool Tryz.underlying4 _), hargs, rfl, hb.frame _, fun h => by cases h⟩

theorem setBoth_j00 : (Rows.setBothRow.wf (OpenSpec.ofChange Rows.setBothSpec)) = true := by kernel_rfl
theorem setBoth_j03 : (Tryz.f10.params.all (Tryz.pinned.checked.prog.readableRec ·)) = true := by kernel_rfl
theorem setBoth_j04 : (namedTie Tryz.pinned.checked.prog Rows.setBothRow.named Rows.setBothSpec.vars) = true := by kernel_rfl
theorem setBoth_j05 : ((Rows.setBothRow.stops == [])) = true := by kernel_rfl
theorem setBoth_j07 : ((Rows.setBothRow.knobs == [])) = true := by kernel_rfl
theorem setBoth_j09 : ((Rows.setBothRow.inPlace == Tryz.pinned.checked.prog.inPlace 10)) = true := by kernel_rfl
theorem setBoth_j10 : ((Rows.setBothRow.unfollowed == Tryz.pinned.checked.prog.unfollowed 10)) = true := by kernel_rfl
theorem setBoth_j11 : ((Rows.setBothRow.recurses == Tryz.pinned.checked.prog.recurses 10)) = true := by kernel_rfl
theorem setBoth_j12 : ((Rows.setBothRow.named == Tryz.pinned.checked.prog.varsNamed 10)) = true := by kernel_rfl
theorem setBoth_j13 : ((Rows.setBothRow.maps == (Tryz.f10.params.toList ++ Rows.setBothSpec.plain.varTypes Tryz.pinned.checked.prog).any (Tryz.pinned.checked.prog.mapsRec ·))) = true := by kernel_rfl
theorem setBoth_j14 : ((Rows.setBothRow.ifaces == (Tryz.f10.params.toList ++ Rows.setBothSpec.plain.varTypes Tryz.pinned.checked.prog).any (Tryz.pinned.checked.prog.ifacesRec ·))) = true := by kernel_rfl
theorem setBoth_j15 : ((Rows.setBothRow.mapsOut == Tryz.pinned.checked.prog.mapsAmong Tryz.f10.resultTypes.toList)) = true := by kernel_rfl
theorem setBoth_j16 : ((Rows.setBothRow.loops == (Tryz.f10.params.toList ++ Rows.setBothSpec.plain.varTypes Tryz.pinned.checked.prog).any (Tryz.pinned.checked.prog.loopsFrom ·))) = true := by kernel_rfl
theorem setBoth_j17 : ((Rows.setBothRow.wideKeys == (Tryz.f10.params.toList ++ Rows.setBothSpec.plain.varTypes Tryz.pinned.checked.prog ++ Tryz.f10.resultTypes.toList).any (Tryz.pinned.checked.prog.wideKeysFrom ·))) = true := by kernel_rfl
theorem setBoth_j18 : (Rows.setBothSpec.vars.all (Tryz.pinned.checked.prog.varReadable ·)) = true := by kernel_rfl
theorem setBoth_j19 : (Tryz.f10.resultTypes.all (fun t => Tryz.pinned.checked.prog.readableRec t && decide (t < Tryz.pinned.checked.prog.types.size))) = true := by kernel_rfl
theorem setBoth_j20 : ((Rows.setBothRow.ifacesOut == Tryz.f10.resultTypes.toList.any (Tryz.pinned.checked.prog.ifacesRec ·))) = true := by kernel_rfl
theorem setBoth_j21 : ((Rows.setBothRow.loopsOut == Tryz.f10.resultTypes.toList.any (Tryz.pinned.checked.prog.loopsFrom ·))) = true := by kernel_rfl
theorem setBoth_j22 : ((Rows.setBothRow.plainKeys == Tryz.pinned.checked.prog.plainKeys)) = true := by kernel_rfl
theorem setBoth_j23 : (Rows.setBothRow.shortTexts.isNone) = true := by kernel_rfl
theorem setBoth_j26 : ((Rows.setBothRow.lifted == Tryz.pinned.checked.prog.liftsFinal)) = true := by rw [headFinal]; kernel_rfl
theorem setBoth_j27 : ((Tryz.pinned.checked.prog.make == some Rows.setBothRow.make)) = true := by rw [headMake]; kernel_rfl
theorem setBoth_j28 : ((Rows.setBothRow.kinds == (if Rows.setBothRow.domain.isEmpty then [] else Tryz.f10.params.toList.map fun t => match Tryz.pinned.checked.prog.underlying t with | some (.int k) => some k | _ => none))) = true := by kernel_rfl
theorem setBoth_j29 : ((Rows.setBothRow.pinned == Rows.setBothRow.pinnedBy)) = true := by kernel_rfl
theorem setBoth_j30 : ((Rows.setBothRow.veiled == (Tryz.f10.params.toList ++ Rows.setBothSpec.plain.varTypes Tryz.pinned.checked.prog ++ Tryz.f10.resultTypes.toList).any (Tryz.pinned.checked.prog.veiledRec ·))) = true := by kernel_rfl
theorem setBoth_j31 : (Rows.setBothRow.veiledFits Tryz.pinned.checked.prog Tryz.f10.params.toList (Tryz.f10.params.toList ++ Rows.setBothSpec.plain.varTypes Tryz.pinned.checked.prog ++ Tryz.f10.resultTypes.toList)) = true := by kernel_rfl
theorem setBoth_closed : joinedFacts Tryz.pinned.checked.prog 10 Tryz.f10 Rows.setBothSpec Rows.setBothRow = true :=
  and2 (and2 (and2 (and2 (and2 (and2 (and2 (and2 (and2 (and2 (and2 (and2 (and2 (and2 (and2 (and2 (and2 (and2 (and2 (and2 (and2 (and2 (and2 (and2 (and2 (and2 (and2 (and2 (and2 (and2 (and2 (setBoth_j00) closedP01) closedP02) setBoth_j03) setBoth_j04) setBoth_j05) closedP06) setBoth_j07) closedP08) setBoth_j09) setBoth_j10) setBoth_j11) setBoth_j12) setBoth_j13) setBoth_j14) setBoth_j15) setBoth_j16) setBoth_j17) setBoth_j18) setBoth_j19) setBoth_j20) setBoth_j21) setBoth_j22) setBoth_j23) closedP24) closedP25) setBoth_j26) setBoth_j27) setBoth_j28) setBoth_j29) setBoth_j30) setBoth_j31

theorem setBoth_holds : Rows.SetBothSaid :=
  OpenClaim.holds_of_wide 10 Tryz.f10 rfl rfl rfl rfl rfl rfl rfl ⟨rfl, rfl, rfl, rfl, rfl⟩ rfl rfl rfl rfl rfl (by kernel_rfl) Tryz.func10 setBoth_closed
    (of_decide_eq_true (by kernel_rfl)) (by unfold Func.isWrapper; first | (rw [if_pos (by decide +kernel)]; kernel_rfl) | (rw [if_neg (by decide +kernel)]; exact ⟨rfl, rfl⟩))
    (fun os started H enc _ => setBoth_lifted os started H enc)
end Go.Proofs.YtmphgnjodangcaaGreat
