/- The law CausalOwn returns true at every input, and leaves its arguments as they were. No condition. -/
import Derived.Test.YtbcoelggdikipaaGreatUz9
import Derived.Test.YtbcoelggdikipaaGreatUz11
import Derived.Test.YtbcoelggdikipaaGreatUz12
namespace Go.Proofs.YtbcoelggdikipaaGreat
open Go.ChangeShapes Go.WideShapes Go.ChangeAt Go.RowKit
set_option maxRecDepth 100000

theorem causalOwn_lifted (os : Os) (started : os.Started) (H : Type) (enc : TypeId × Value → H) :
    ReturnsInHanded {} Tryz.checked os 4 .any (Rows.causalOwnSpec.pre6 enc Tryz.prog Tryz.f4 Rows.causalOwnRow.domain false) (Rows.causalOwnSpec.post enc Tryz.prog Tryz.f4 false true false false) := by
  refine returnsInHanded_of_change_sized (C := Tryz.checked) own started (by kernel_rfl) Tryz.func4
    (ChangeSpec.witness6 (enc := enc) (C := Tryz.checked) false ⟨#[], #[.agg #[.slice none 0 0, .slice none 0 0, .slice none 0 0], .agg #[.slice none 0 0, .slice none 0 0, .slice none 0 0], .slice none 0 0], []⟩ 8 (by kernel_rfl) (by kernel_rfl) (by kernel_rfl) (by kernel_rfl)) ?_
  intro W base args ds gs before hval0 hW _ hsz0 _
  have hsz : (DataW.weightsEach Tryz.prog (Tryz.f4.params.toList ++ Rows.causalOwnSpec.plain.varTypes Tryz.prog) (ds ++ gs)).all (· ≤ reachBytes) = true := hsz0
  clear hsz0
  have hval : ∀ (j : Nat) t v, Tryz.f4.params[j]? = some t → args[j]? = some v → Value.okWide Tryz.prog W .any base t v := hval0
  have hW' := hW
  obtain ⟨p, q, hA0, hV, rfl, _, _⟩ := hW
  have hA : DataW.TrodAll enc Tryz.prog W 0 (fun _ => true) true Tryz.f4.params.toList args.toList ds p := hA0
  rw [Tryz.params4] at hA hval hsz
  have hAll := hA
  have hlt : ∀ x ∈ p, x.block < W.heap.size := fun x hx => hW'.lt x (List.mem_append_left _ hx)
  obtain ⟨v0, v1, v2, d0, d1, d2, p0, p1, p2, rfl, rfl, rfl, h0, h1, h2⟩ := trodAll_three hA
  obtain ⟨rfl, rfl⟩ := trodVars_none hV
  clear hA0 hval0
  simp only [List.append_nil] at hW'
  obtain ⟨t0, c0, xe0, xk0, xc0, rfl, ht0, hc0⟩ := qQ6 (hval 0 29 v0 rfl rfl) h0 (fun m hm => by
    have := List.all_eq_true.1 hsz m (DataW.weights_mem_each (j := 0) (t := 29) (d := d0) rfl rfl m hm)
    simpa using this)
  obtain ⟨t1, c1, xe1, xk1, xc1, rfl, ht1, hc1⟩ := qQ6 (hval 1 29 v1 rfl rfl) h1 (fun m hm => by
    have := List.all_eq_true.1 hsz m (DataW.weights_mem_each (j := 1) (t := 29) (d := d1) rfl rfl m hm)
    simpa using this)
  obtain ⟨l2, hl2⟩ := qQz (hval 2 30 v2 rfl rfl) h2 (fun m hm => by
    have := List.all_eq_true.1 hsz m (DataW.weights_mem_each (j := 2) (t := 30) (d := d2) rfl rfl m hm)
    simpa using this)
  refine (VO t0 c0 t1 c1 l2 W xe0 xk0 xc0 xe1 xk1 xc1 v2 ht0 hc0 ht1 hc1 hl2).mono fun e W' ⟨he, hb⟩ => ?_
  subst he
  have hargs := ZY qZp _ _ _ _ (fun t ht => by simp at ht; rcases ht with rfl | rfl | rfl <;> first | exact qQw | exact V1) hAll hb hlt
  exact ⟨_, rfl, _, _, _, [], _, [], hW', trodAll_mk1 (shut_bool Tryz.underlying4 _), hargs, rfl, hb.frame _, fun h => by cases h⟩

theorem causalOwn_j00 : (Rows.causalOwnRow.wf (OpenSpec.ofChange Rows.causalOwnSpec)) = true := by kernel_rfl
theorem causalOwn_j03 : (Tryz.f4.params.all (Tryz.pinned.checked.prog.readableRec ·)) = true := by kernel_rfl
theorem causalOwn_j04 : (namedTie Tryz.pinned.checked.prog Rows.causalOwnRow.named Rows.causalOwnSpec.vars) = true := by kernel_rfl
theorem causalOwn_j05 : ((Rows.causalOwnRow.stops == [])) = true := by kernel_rfl
theorem causalOwn_j07 : ((Rows.causalOwnRow.knobs == [])) = true := by kernel_rfl
theorem causalOwn_j09 : ((Rows.causalOwnRow.inPlace == Tryz.pinned.checked.prog.inPlace 4)) = true := by kernel_rfl
theorem causalOwn_j10 : ((Rows.causalOwnRow.unfollowed == Tryz.pinned.checked.prog.unfollowed 4)) = true := by kernel_rfl
theorem causalOwn_j11 : ((Rows.causalOwnRow.recurses == Tryz.pinned.checked.prog.recurses 4)) = true := by kernel_rfl
theorem causalOwn_j12 : ((Rows.causalOwnRow.named == Tryz.pinned.checked.prog.varsNamed 4)) = true := by kernel_rfl
theorem causalOwn_j13 : ((Rows.causalOwnRow.maps == (Tryz.f4.params.toList ++ Rows.causalOwnSpec.plain.varTypes Tryz.pinned.checked.prog).any (Tryz.pinned.checked.prog.mapsRec ·))) = true := by kernel_rfl
theorem causalOwn_j14 : ((Rows.causalOwnRow.ifaces == (Tryz.f4.params.toList ++ Rows.causalOwnSpec.plain.varTypes Tryz.pinned.checked.prog).any (Tryz.pinned.checked.prog.ifacesRec ·))) = true := by kernel_rfl
theorem causalOwn_j15 : ((Rows.causalOwnRow.mapsOut == Tryz.pinned.checked.prog.mapsAmong Tryz.f4.resultTypes.toList)) = true := by kernel_rfl
theorem causalOwn_j16 : ((Rows.causalOwnRow.loops == (Tryz.f4.params.toList ++ Rows.causalOwnSpec.plain.varTypes Tryz.pinned.checked.prog).any (Tryz.pinned.checked.prog.loopsFrom ·))) = true := by kernel_rfl
theorem causalOwn_j17 : ((Rows.causalOwnRow.wideKeys == (Tryz.f4.params.toList ++ Rows.causalOwnSpec.plain.varTypes Tryz.pinned.checked.prog ++ Tryz.f4.resultTypes.toList).any (Tryz.pinned.checked.prog.wideKeysFrom ·))) = true := by kernel_rfl
theorem causalOwn_j18 : (Rows.causalOwnSpec.vars.all (Tryz.pinned.checked.prog.varReadable ·)) = true := by kernel_rfl
theorem causalOwn_j19 : (Tryz.f4.resultTypes.all (fun t => Tryz.pinned.checked.prog.readableRec t && decide (t < Tryz.pinned.checked.prog.types.size))) = true := by kernel_rfl
theorem causalOwn_j20 : ((Rows.causalOwnRow.ifacesOut == Tryz.f4.resultTypes.toList.any (Tryz.pinned.checked.prog.ifacesRec ·))) = true := by kernel_rfl
theorem causalOwn_j21 : ((Rows.causalOwnRow.loopsOut == Tryz.f4.resultTypes.toList.any (Tryz.pinned.checked.prog.loopsFrom ·))) = true := by kernel_rfl
theorem causalOwn_j22 : ((Rows.causalOwnRow.plainKeys == Tryz.pinned.checked.prog.plainKeys)) = true := by kernel_rfl
theorem causalOwn_j23 : (Rows.causalOwnRow.shortTexts.isNone) = true := by kernel_rfl
theorem causalOwn_j26 : ((Rows.causalOwnRow.lifted == Tryz.pinned.checked.prog.liftsFinal)) = true := by rw [VR]; kernel_rfl
theorem causalOwn_j27 : ((Tryz.pinned.checked.prog.make == some Rows.causalOwnRow.make)) = true := by rw [qQt]; kernel_rfl
theorem causalOwn_j28 : ((Rows.causalOwnRow.kinds == (if Rows.causalOwnRow.domain.isEmpty then [] else Tryz.f4.params.toList.map fun t => match Tryz.pinned.checked.prog.underlying t with | some (.int k) => some k | _ => none))) = true := by kernel_rfl
theorem causalOwn_j29 : ((Rows.causalOwnRow.pinned == Rows.causalOwnRow.pinnedBy)) = true := by kernel_rfl
theorem causalOwn_j30 : ((Rows.causalOwnRow.veiled == (Tryz.f4.params.toList ++ Rows.causalOwnSpec.plain.varTypes Tryz.pinned.checked.prog ++ Tryz.f4.resultTypes.toList).any (Tryz.pinned.checked.prog.veiledRec ·))) = true := by kernel_rfl
theorem causalOwn_j31 : (Rows.causalOwnRow.veiledFits Tryz.pinned.checked.prog Tryz.f4.params.toList (Tryz.f4.params.toList ++ Rows.causalOwnSpec.plain.varTypes Tryz.pinned.checked.prog ++ Tryz.f4.resultTypes.toList)) = true := by kernel_rfl
theorem causalOwn_closed : joinedFacts Tryz.pinned.checked.prog 4 Tryz.f4 Rows.causalOwnSpec Rows.causalOwnRow = true :=
  and2 (and2 (and2 (and2 (and2 (and2 (and2 (and2 (and2 (and2 (and2 (and2 (and2 (and2 (and2 (and2 (and2 (and2 (and2 (and2 (and2 (and2 (and2 (and2 (and2 (and2 (and2 (and2 (and2 (and2 (and2 (causalOwn_j00) VS) VT) causalOwn_j03) causalOwn_j04) causalOwn_j05) VU) causalOwn_j07) VV) causalOwn_j09) causalOwn_j10) causalOwn_j11) causalOwn_j12) causalOwn_j13) causalOwn_j14) causalOwn_j15) causalOwn_j16) causalOwn_j17) causalOwn_j18) causalOwn_j19) causalOwn_j20) causalOwn_j21) causalOwn_j22) causalOwn_j23) VW) VY) causalOwn_j26) causalOwn_j27) causalOwn_j28) causalOwn_j29) causalOwn_j30) causalOwn_j31

theorem causalOwn_holds : Rows.CausalOwnSaid :=
  OpenClaim.holds_of_wide 4 Tryz.f4 rfl rfl rfl rfl rfl rfl rfl ⟨rfl, rfl, rfl, rfl, rfl⟩ rfl rfl rfl rfl rfl (by kernel_rfl) Tryz.func4 causalOwn_closed
    (of_decide_eq_true (by kernel_rfl)) (by unfold Func.isWrapper; first | (rw [if_pos (by decide +kernel)]; kernel_rfl) | (rw [if_neg (by decide +kernel)]; exact ⟨rfl, rfl⟩))
    (fun os started H enc _ => causalOwn_lifted os started H enc)
end Go.Proofs.YtbcoelggdikipaaGreat
