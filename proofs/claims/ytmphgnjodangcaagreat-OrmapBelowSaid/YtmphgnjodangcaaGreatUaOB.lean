/- The law OrmapBelow returns true at every input, and leaves its arguments as they were. No condition. -/
import Derived.Test.YtmphgnjodangcaaGreatUa10
namespace Go.Proofs.YtmphgnjodangcaaGreat
open Go.ChangeShapes Go.WideShapes Go.ChangeAt Go.RowKit
set_option maxRecDepth 100000

theorem ormapBelow_lifted (os : Os) (started : os.Started) (H : Type) (enc : TypeId × Value → H) :
    ReturnsInHanded {} Tryz.checked os 8 .any (Rows.ormapBelowSpec.pre6 enc Tryz.prog Tryz.f8 Rows.ormapBelowRow.domain false) (Rows.ormapBelowSpec.post enc Tryz.prog Tryz.f8 false true false false) := by
  refine returnsInHanded_of_change_sized (C := Tryz.checked) own started (by kernel_rfl) Tryz.func8
    (ChangeSpec.witness6 (enc := enc) (C := Tryz.checked) false ⟨#[], #[.agg #[.slice none 0 0, .slice none 0 0], .string ByteArray.empty, .agg #[.slice none 0 0, .slice none 0 0, .slice none 0 0]], []⟩ 8 (by kernel_rfl) (by kernel_rfl) (by kernel_rfl) (by kernel_rfl)) ?_
  intro W base args ds gs before hval0 hW _ hsz0 _
  have hsz : (DataW.weightsEach Tryz.prog (Tryz.f8.params.toList ++ Rows.ormapBelowSpec.plain.varTypes Tryz.prog) (ds ++ gs)).all (· ≤ reachBytes) = true := hsz0
  clear hsz0
  have hval : ∀ (j : Nat) t v, Tryz.f8.params[j]? = some t → args[j]? = some v → Value.okWide Tryz.prog W .any base t v := hval0
  have hW' := hW
  obtain ⟨p, q, hA0, hV, rfl, _, _⟩ := hW
  have hA : DataW.TrodAll enc Tryz.prog W 0 (fun _ => true) true Tryz.f8.params.toList args.toList ds p := hA0
  rw [Tryz.params8] at hA hval hsz
  have hAll := hA
  have hlt : ∀ x ∈ p, x.block < W.heap.size := fun x hx => hW'.lt x (List.mem_append_left _ hx)
  obtain ⟨v0, v1, v2, d0, d1, d2, p0, p1, p2, rfl, rfl, rfl, h0, h1, h2⟩ := trodAll_three hA
  obtain ⟨rfl, rfl⟩ := trodVars_none hV
  clear hA0 hval0
  simp only [List.append_nil] at hW'
  obtain ⟨t0, ve0, vk0, rfl, ht0⟩ := tree_arg (hval 0 27 v0 rfl rfl) h0 (fun m hm => by
    have := List.all_eq_true.1 hsz m (DataW.weights_mem_each (j := 0) (t := 27) (d := d0) rfl rfl m hm)
    simpa using this)
  obtain ⟨s1, rfl, hs1⟩ := str_arg (hval 1 9 v1 rfl rfl) h1 (fun m hm => by
    have := List.all_eq_true.1 hsz m (DataW.weights_mem_each (j := 1) (t := 9) (d := d1) rfl rfl m hm)
    simpa using this)
  obtain ⟨t2, c2, xe2, xk2, xc2, rfl, ht2, hc2⟩ := ca_arg (hval 2 31 v2 rfl rfl) h2 (fun m hm => by
    have := List.all_eq_true.1 hsz m (DataW.weights_mem_each (j := 2) (t := 31) (d := d2) rfl rfl m hm)
    simpa using this)
  refine (lawOB_any t0 s1 t2 c2 W ve0 vk0 xe2 xk2 xc2 ht0 hs1 ht2 hc2).mono fun e W' ⟨he, hb⟩ => ?_
  subst he
  have hargs := trodAll_below laidOut _ _ _ _ (fun t ht => by simp at ht; rcases ht with rfl | rfl | rfl <;> first | exact okTree | exact okString | exact okCausal) hAll hb hlt
  exact ⟨_, rfl, _, _, _, [], _, [], hW', trodAll_mk1 (shut_bool Tryz.underlying4 _), hargs, rfl, hb.frame _, fun h => by cases h⟩

theorem ormapBelow_j00 : (Rows.ormapBelowRow.wf (OpenSpec.ofChange Rows.ormapBelowSpec)) = true := by kernel_rfl
theorem ormapBelow_j03 : (Tryz.f8.params.all (Tryz.pinned.checked.prog.readableRec ·)) = true := by kernel_rfl
theorem ormapBelow_j04 : (namedTie Tryz.pinned.checked.prog Rows.ormapBelowRow.named Rows.ormapBelowSpec.vars) = true := by kernel_rfl
theorem ormapBelow_j05 : ((Rows.ormapBelowRow.stops == [])) = true := by kernel_rfl
theorem ormapBelow_j07 : ((Rows.ormapBelowRow.knobs == [])) = true := by kernel_rfl
theorem ormapBelow_j09 : ((Rows.ormapBelowRow.inPlace == Tryz.pinned.checked.prog.inPlace 8)) = true := by kernel_rfl
theorem ormapBelow_j10 : ((Rows.ormapBelowRow.unfollowed == Tryz.pinned.checked.prog.unfollowed 8)) = true := by kernel_rfl
theorem ormapBelow_j11 : ((Rows.ormapBelowRow.recurses == Tryz.pinned.checked.prog.recurses 8)) = true := by kernel_rfl
theorem ormapBelow_j12 : ((Rows.ormapBelowRow.named == Tryz.pinned.checked.prog.varsNamed 8)) = true := by kernel_rfl
theorem ormapBelow_j13 : ((Rows.ormapBelowRow.maps == (Tryz.f8.params.toList ++ Rows.ormapBelowSpec.plain.varTypes Tryz.pinned.checked.prog).any (Tryz.pinned.checked.prog.mapsRec ·))) = true := by kernel_rfl
theorem ormapBelow_j14 : ((Rows.ormapBelowRow.ifaces == (Tryz.f8.params.toList ++ Rows.ormapBelowSpec.plain.varTypes Tryz.pinned.checked.prog).any (Tryz.pinned.checked.prog.ifacesRec ·))) = true := by kernel_rfl
theorem ormapBelow_j15 : ((Rows.ormapBelowRow.mapsOut == Tryz.pinned.checked.prog.mapsAmong Tryz.f8.resultTypes.toList)) = true := by kernel_rfl
theorem ormapBelow_j16 : ((Rows.ormapBelowRow.loops == (Tryz.f8.params.toList ++ Rows.ormapBelowSpec.plain.varTypes Tryz.pinned.checked.prog).any (Tryz.pinned.checked.prog.loopsFrom ·))) = true := by kernel_rfl
theorem ormapBelow_j17 : ((Rows.ormapBelowRow.wideKeys == (Tryz.f8.params.toList ++ Rows.ormapBelowSpec.plain.varTypes Tryz.pinned.checked.prog ++ Tryz.f8.resultTypes.toList).any (Tryz.pinned.checked.prog.wideKeysFrom ·))) = true := by kernel_rfl
theorem ormapBelow_j18 : (Rows.ormapBelowSpec.vars.all (Tryz.pinned.checked.prog.varReadable ·)) = true := by kernel_rfl
theorem ormapBelow_j19 : (Tryz.f8.resultTypes.all (fun t => Tryz.pinned.checked.prog.readableRec t && decide (t < Tryz.pinned.checked.prog.types.size))) = true := by kernel_rfl
theorem ormapBelow_j20 : ((Rows.ormapBelowRow.ifacesOut == Tryz.f8.resultTypes.toList.any (Tryz.pinned.checked.prog.ifacesRec ·))) = true := by kernel_rfl
theorem ormapBelow_j21 : ((Rows.ormapBelowRow.loopsOut == Tryz.f8.resultTypes.toList.any (Tryz.pinned.checked.prog.loopsFrom ·))) = true := by kernel_rfl
theorem ormapBelow_j22 : ((Rows.ormapBelowRow.plainKeys == Tryz.pinned.checked.prog.plainKeys)) = true := by kernel_rfl
theorem ormapBelow_j23 : (Rows.ormapBelowRow.shortTexts.isNone) = true := by kernel_rfl
theorem ormapBelow_j26 : ((Rows.ormapBelowRow.lifted == Tryz.pinned.checked.prog.liftsFinal)) = true := by rw [headFinal]; kernel_rfl
theorem ormapBelow_j27 : ((Tryz.pinned.checked.prog.make == some Rows.ormapBelowRow.make)) = true := by rw [headMake]; kernel_rfl
theorem ormapBelow_j28 : ((Rows.ormapBelowRow.kinds == (if Rows.ormapBelowRow.domain.isEmpty then [] else Tryz.f8.params.toList.map fun t => match Tryz.pinned.checked.prog.underlying t with | some (.int k) => some k | _ => none))) = true := by kernel_rfl
theorem ormapBelow_j29 : ((Rows.ormapBelowRow.pinned == Rows.ormapBelowRow.pinnedBy)) = true := by kernel_rfl
theorem ormapBelow_j30 : ((Rows.ormapBelowRow.veiled == (Tryz.f8.params.toList ++ Rows.ormapBelowSpec.plain.varTypes Tryz.pinned.checked.prog ++ Tryz.f8.resultTypes.toList).any (Tryz.pinned.checked.prog.veiledRec ·))) = true := by kernel_rfl
theorem ormapBelow_j31 : (Rows.ormapBelowRow.veiledFits Tryz.pinned.checked.prog Tryz.f8.params.toList (Tryz.f8.params.toList ++ Rows.ormapBelowSpec.plain.varTypes Tryz.pinned.checked.prog ++ Tryz.f8.resultTypes.toList)) = true := by kernel_rfl
theorem ormapBelow_closed : joinedFacts Tryz.pinned.checked.prog 8 Tryz.f8 Rows.ormapBelowSpec Rows.ormapBelowRow = true :=
  and2 (and2 (and2 (and2 (and2 (and2 (and2 (and2 (and2 (and2 (and2 (and2 (and2 (and2 (and2 (and2 (and2 (and2 (and2 (and2 (and2 (and2 (and2 (and2 (and2 (and2 (and2 (and2 (and2 (and2 (and2 (ormapBelow_j00) closedP01) closedP02) ormapBelow_j03) ormapBelow_j04) ormapBelow_j05) closedP06) ormapBelow_j07) closedP08) ormapBelow_j09) ormapBelow_j10) ormapBelow_j11) ormapBelow_j12) ormapBelow_j13) ormapBelow_j14) ormapBelow_j15) ormapBelow_j16) ormapBelow_j17) ormapBelow_j18) ormapBelow_j19) ormapBelow_j20) ormapBelow_j21) ormapBelow_j22) ormapBelow_j23) closedP24) closedP25) ormapBelow_j26) ormapBelow_j27) ormapBelow_j28) ormapBelow_j29) ormapBelow_j30) ormapBelow_j31

theorem ormapBelow_holds : Rows.OrmapBelowSaid :=
  OpenClaim.holds_of_wide 8 Tryz.f8 rfl rfl rfl rfl rfl rfl rfl ⟨rfl, rfl, rfl, rfl, rfl⟩ rfl rfl rfl rfl rfl (by kernel_rfl) Tryz.func8 ormapBelow_closed
    (of_decide_eq_true (by kernel_rfl)) (by unfold Func.isWrapper; first | (rw [if_pos (by decide +kernel)]; kernel_rfl) | (rw [if_neg (by decide +kernel)]; exact ⟨rfl, rfl⟩))
    (fun os started H enc _ => ormapBelow_lifted os started H enc)
end Go.Proofs.YtmphgnjodangcaaGreat
