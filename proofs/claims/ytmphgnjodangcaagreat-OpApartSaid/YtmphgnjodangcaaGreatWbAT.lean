/- The law OpApart returns true at every input, and leaves its arguments as they were. No condition. -/
import Derived.Test.YtmphgnjodangcaaGreatWb10
namespace Go.Proofs.YtmphgnjodangcaaGreat
open Go.ChangeShapes Go.WideShapes Go.ChangeAt Go.RowKit
set_option maxRecDepth 100000

theorem opApart_lifted (os : Os) (started : os.Started) (H : Type) (enc : TypeId × Value → H) :
    ReturnsInHanded {} Tryz.checked os 16 .any (Rows.opApartSpec.pre6 enc Tryz.prog Tryz.f16 Rows.opApartRow.domain false) (Rows.opApartSpec.post enc Tryz.prog Tryz.f16 false true false false) := by
  refine returnsInHanded_of_change_sized (C := Tryz.checked) own started (by kernel_rfl) Tryz.func16
    (ChangeSpec.witness6 (enc := enc) (C := Tryz.checked) false ⟨#[], #[.agg #[.slice none 0 0, .slice none 0 0], .agg #[.slice none 0 0, .int .i64 0, .string ByteArray.empty, .int .i64 0], .agg #[.int .i64 0, .int .i64 0], .slice none 0 0], []⟩ 8 (by kernel_rfl) (by kernel_rfl) (by kernel_rfl) (by kernel_rfl)) ?_
  intro W base args ds gs before hval0 hW _ hsz0 _
  have hsz : (DataW.weightsEach Tryz.prog (Tryz.f16.params.toList ++ Rows.opApartSpec.plain.varTypes Tryz.prog) (ds ++ gs)).all (· ≤ reachBytes) = true := hsz0
  clear hsz0
  have hval : ∀ (j : Nat) t v, Tryz.f16.params[j]? = some t → args[j]? = some v → Value.okWide Tryz.prog W .any base t v := hval0
  have hW' := hW
  obtain ⟨p, q, hA0, hV, rfl, _, _⟩ := hW
  have hA : DataW.TrodAll enc Tryz.prog W 0 (fun _ => true) true Tryz.f16.params.toList args.toList ds p := hA0
  rw [Tryz.params16] at hA hval hsz
  have hAll := hA
  have hlt : ∀ x ∈ p, x.block < W.heap.size := fun x hx => hW'.lt x (List.mem_append_left _ hx)
  obtain ⟨v0, v1, v2, v3, d0, d1, d2, d3, p0, p1, p2, p3, rfl, rfl, rfl, h0, h1, h2, h3⟩ := trodAll_four hA
  obtain ⟨rfl, rfl⟩ := trodVars_none hV
  clear hA0 hval0
  simp only [List.append_nil] at hW'
  obtain ⟨t0, ve0, vk0, rfl, ht0⟩ := tree_arg (hval 0 27 v0 rfl rfl) h0 (fun m hm => by
    have := List.all_eq_true.1 hsz m (DataW.weights_mem_each (j := 0) (t := 27) (d := d0) rfl rfl m hm)
    simpa using this)
  obtain ⟨o1, vp1, rfl, hl1, ho1⟩ := op_arg (hval 1 80 v1 rfl rfl) h1 (fun m hm => by
    have := List.all_eq_true.1 hsz m (DataW.weights_mem_each (j := 1) (t := 80) (d := d1) rfl rfl m hm)
    simpa using this)
  obtain ⟨x2, rfl, hx2⟩ := dot_arg (hval 2 54 v2 rfl rfl) h2
  obtain ⟨l3, hl3⟩ := strs_arg (hval 3 39 v3 rfl rfl) h3 (fun m hm => by
    have := List.all_eq_true.1 hsz m (DataW.weights_mem_each (j := 3) (t := 39) (d := d3) rfl rfl m hm)
    simpa using this)
  refine (lawAT_any t0 o1 x2 l3 W ve0 vk0 vp1 v3 ht0 hl1 ho1 hx2 hl3).mono fun e W' ⟨he, hb⟩ => ?_
  subst he
  have hargs := trodAll_below laidOut _ _ _ _ (fun t ht => by simp at ht; rcases ht with rfl | rfl | rfl | rfl <;> first | exact okTree | exact okOp | exact okDot | exact okStrings) hAll hb hlt
  exact ⟨_, rfl, _, _, _, [], _, [], hW', trodAll_mk1 (shut_bool Tryz.underlying4 _), hargs, rfl, hb.frame _, fun h => by cases h⟩

theorem opApart_j00 : (Rows.opApartRow.wf (OpenSpec.ofChange Rows.opApartSpec)) = true := by kernel_rfl
theorem opApart_j03 : (Tryz.f16.params.all (Tryz.pinned.checked.prog.readableRec ·)) = true := by kernel_rfl
theorem opApart_j04 : (namedTie Tryz.pinned.checked.prog Rows.opApartRow.named Rows.opApartSpec.vars) = true := by kernel_rfl
theorem opApart_j05 : ((Rows.opApartRow.stops == [])) = true := by kernel_rfl
theorem opApart_j07 : ((Rows.opApartRow.knobs == [])) = true := by kernel_rfl
theorem opApart_j09 : ((Rows.opApartRow.inPlace == Tryz.pinned.checked.prog.inPlace 16)) = true := by kernel_rfl
theorem opApart_j10 : ((Rows.opApartRow.unfollowed == Tryz.pinned.checked.prog.unfollowed 16)) = true := by kernel_rfl
theorem opApart_j11 : ((Rows.opApartRow.recurses == Tryz.pinned.checked.prog.recurses 16)) = true := by kernel_rfl
theorem opApart_j12 : ((Rows.opApartRow.named == Tryz.pinned.checked.prog.varsNamed 16)) = true := by kernel_rfl
theorem opApart_j13 : ((Rows.opApartRow.maps == (Tryz.f16.params.toList ++ Rows.opApartSpec.plain.varTypes Tryz.pinned.checked.prog).any (Tryz.pinned.checked.prog.mapsRec ·))) = true := by kernel_rfl
theorem opApart_j14 : ((Rows.opApartRow.ifaces == (Tryz.f16.params.toList ++ Rows.opApartSpec.plain.varTypes Tryz.pinned.checked.prog).any (Tryz.pinned.checked.prog.ifacesRec ·))) = true := by kernel_rfl
theorem opApart_j15 : ((Rows.opApartRow.mapsOut == Tryz.pinned.checked.prog.mapsAmong Tryz.f16.resultTypes.toList)) = true := by kernel_rfl
theorem opApart_j16 : ((Rows.opApartRow.loops == (Tryz.f16.params.toList ++ Rows.opApartSpec.plain.varTypes Tryz.pinned.checked.prog).any (Tryz.pinned.checked.prog.loopsFrom ·))) = true := by kernel_rfl
theorem opApart_j17 : ((Rows.opApartRow.wideKeys == (Tryz.f16.params.toList ++ Rows.opApartSpec.plain.varTypes Tryz.pinned.checked.prog ++ Tryz.f16.resultTypes.toList).any (Tryz.pinned.checked.prog.wideKeysFrom ·))) = true := by kernel_rfl
theorem opApart_j18 : (Rows.opApartSpec.vars.all (Tryz.pinned.checked.prog.varReadable ·)) = true := by kernel_rfl
theorem opApart_j19 : (Tryz.f16.resultTypes.all (fun t => Tryz.pinned.checked.prog.readableRec t && decide (t < Tryz.pinned.checked.prog.types.size))) = true := by kernel_rfl
theorem opApart_j20 : ((Rows.opApartRow.ifacesOut == Tryz.f16.resultTypes.toList.any (Tryz.pinned.checked.prog.ifacesRec ·))) = true := by kernel_rfl
theorem opApart_j21 : ((Rows.opApartRow.loopsOut == Tryz.f16.resultTypes.toList.any (Tryz.pinned.checked.prog.loopsFrom ·))) = true := by kernel_rfl
theorem opApart_j22 : ((Rows.opApartRow.plainKeys == Tryz.pinned.checked.prog.plainKeys)) = true := by kernel_rfl
theorem opApart_j23 : (Rows.opApartRow.shortTexts.isNone) = true := by kernel_rfl
theorem opApart_j26 : ((Rows.opApartRow.lifted == Tryz.pinned.checked.prog.liftsFinal)) = true := by rw [headFinal]; kernel_rfl
theorem opApart_j27 : ((Tryz.pinned.checked.prog.make == some Rows.opApartRow.make)) = true := by rw [headMake]; kernel_rfl
theorem opApart_j28 : ((Rows.opApartRow.kinds == (if Rows.opApartRow.domain.isEmpty then [] else Tryz.f16.params.toList.map fun t => match Tryz.pinned.checked.prog.underlying t with | some (.int k) => some k | _ => none))) = true := by kernel_rfl
theorem opApart_j29 : ((Rows.opApartRow.pinned == Rows.opApartRow.pinnedBy)) = true := by kernel_rfl
theorem opApart_j30 : ((Rows.opApartRow.veiled == (Tryz.f16.params.toList ++ Rows.opApartSpec.plain.varTypes Tryz.pinned.checked.prog ++ Tryz.f16.resultTypes.toList).any (Tryz.pinned.checked.prog.veiledRec ·))) = true := by kernel_rfl
theorem opApart_j31 : (Rows.opApartRow.veiledFits Tryz.pinned.checked.prog Tryz.f16.params.toList (Tryz.f16.params.toList ++ Rows.opApartSpec.plain.varTypes Tryz.pinned.checked.prog ++ Tryz.f16.resultTypes.toList)) = true := by kernel_rfl
theorem opApart_closed : joinedFacts Tryz.pinned.checked.prog 16 Tryz.f16 Rows.opApartSpec Rows.opApartRow = true :=
  and2 (and2 (and2 (and2 (and2 (and2 (and2 (and2 (and2 (and2 (and2 (and2 (and2 (and2 (and2 (and2 (and2 (and2 (and2 (and2 (and2 (and2 (and2 (and2 (and2 (and2 (and2 (and2 (and2 (and2 (and2 (opApart_j00) closedP01) closedP02) opApart_j03) opApart_j04) opApart_j05) closedP06) opApart_j07) closedP08) opApart_j09) opApart_j10) opApart_j11) opApart_j12) opApart_j13) opApart_j14) opApart_j15) opApart_j16) opApart_j17) opApart_j18) opApart_j19) opApart_j20) opApart_j21) opApart_j22) opApart_j23) closedP24) closedP25) opApart_j26) opApart_j27) opApart_j28) opApart_j29) opApart_j30) opApart_j31

theorem opApart_holds : Rows.OpApartSaid :=
  OpenClaim.holds_of_wide 16 Tryz.f16 rfl rfl rfl rfl rfl rfl rfl ⟨rfl, rfl, rfl, rfl, rfl⟩ rfl rfl rfl rfl rfl (by kernel_rfl) Tryz.func16 opApart_closed
    (of_decide_eq_true (by kernel_rfl)) (by unfold Func.isWrapper; first | (rw [if_pos (by decide +kernel)]; kernel_rfl) | (rw [if_neg (by decide +kernel)]; exact ⟨rfl, rfl⟩))
    (fun os started H enc _ => opApart_lifted os started H enc)
end Go.Proofs.YtmphgnjodangcaaGreat
