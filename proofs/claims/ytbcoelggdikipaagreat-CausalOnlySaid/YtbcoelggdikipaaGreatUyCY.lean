/- The law CausalOnly returns true at every input, and leaves its arguments as they were. No condition. -/
import Derived.Test.YtbcoelggdikipaaGreatUy8
import Derived.Test.YtbcoelggdikipaaGreatUy9
import Derived.Test.YtbcoelggdikipaaGreatUy10
namespace Go.Proofs.YtbcoelggdikipaaGreat
open Go.ChangeShapes Go.WideShapes Go.ChangeAt Go.RowKit
set_option maxRecDepth 100000

theorem causalOnly_lifted (os : Os) (started : os.Started) (H : Type) (enc : TypeId × Value → H) :
    ReturnsInHanded {} Tryz.checked os 3 .any (Rows.causalOnlySpec.pre6 enc Tryz.prog Tryz.f3 Rows.causalOnlyRow.domain false) (Rows.causalOnlySpec.post enc Tryz.prog Tryz.f3 false true false false) := by
  refine returnsInHanded_of_change_sized (C := Tryz.checked) own started (by kernel_rfl) Tryz.func3
    (ChangeSpec.witness6 (enc := enc) (C := Tryz.checked) false ⟨#[], #[.agg #[.slice none 0 0, .slice none 0 0, .slice none 0 0], .slice none 0 0], []⟩ 8 (by kernel_rfl) (by kernel_rfl) (by kernel_rfl) (by kernel_rfl)) ?_
  intro W base args ds gs before hval0 hW _ hsz0 _
  have hsz : (DataW.weightsEach Tryz.prog (Tryz.f3.params.toList ++ Rows.causalOnlySpec.plain.varTypes Tryz.prog) (ds ++ gs)).all (· ≤ reachBytes) = true := hsz0
  clear hsz0
  have hval : ∀ (j : Nat) t v, Tryz.f3.params[j]? = some t → args[j]? = some v → Value.okWide Tryz.prog W .any base t v := hval0
  have hW' := hW
  obtain ⟨p, q, hA0, hV, rfl, _, _⟩ := hW
  have hA : DataW.TrodAll enc Tryz.prog W 0 (fun _ => true) true Tryz.f3.params.toList args.toList ds p := hA0
  rw [Tryz.params3] at hA hval hsz
  have hAll := hA
  have hlt : ∀ x ∈ p, x.block < W.heap.size := fun x hx => hW'.lt x (List.mem_append_left _ hx)
  obtain ⟨v0, v1, d0, d1, p0, p1, rfl, rfl, rfl, h0, h1⟩ := trodAll_two hA
  obtain ⟨rfl, rfl⟩ := trodVars_none hV
  clear hA0 hval0
  simp only [List.append_nil] at hW'
  obtain ⟨t0, c0, xe0, xk0, xc0, rfl, ht0, hc0⟩ := qZ6 (hval 0 29 v0 rfl rfl) h0 (fun m hm => by
    have := List.all_eq_true.1 hsz m (DataW.weights_mem_each (j := 0) (t := 29) (d := d0) rfl rfl m hm)
    simpa using this)
  obtain ⟨l1, hl1⟩ := qQ7 (hval 1 30 v1 rfl rfl) h1 (fun m hm => by
    have := List.all_eq_true.1 hsz m (DataW.weights_mem_each (j := 1) (t := 30) (d := d1) rfl rfl m hm)
    simpa using this)
  refine (VV t0 c0 l1 W xe0 xk0 xc0 v1 ht0 hc0 hl1).mono fun e W' ⟨he, hb⟩ => ?_
  subst he
  have hargs := ZW qZw _ _ _ _ (fun t ht => by simp at ht; rcases ht with rfl | rfl <;> first | exact qQ4 | exact V8) hAll hb hlt
  exact ⟨_, rfl, _, _, _, [], _, [], hW', trodAll_mk1 (shut_bool Tryz.underlying4 _), hargs, rfl, hb.frame _, fun h => by cases h⟩

theorem causalOnly_j00 : (Rows.causalOnlyRow.wf (OpenSpec.ofChange Rows.causalOnlySpec)) = true := by kernel_rfl
theorem causalOnly_j03 : (Tryz.f3.params.all (Tryz.pinned.checked.prog.readableRec ·)) = true := by kernel_rfl
theorem causalOnly_j04 : (namedTie Tryz.pinned.checked.prog Rows.causalOnlyRow.named Rows.causalOnlySpec.vars) = true := by kernel_rfl
theorem causalOnly_j05 : ((Rows.causalOnlyRow.stops == [])) = true := by kernel_rfl
theorem causalOnly_j07 : ((Rows.causalOnlyRow.knobs == [])) = true := by kernel_rfl
theorem causalOnly_j09 : ((Rows.causalOnlyRow.inPlace == Tryz.pinned.checked.prog.inPlace 3)) = true := by kernel_rfl
theorem causalOnly_j10 : ((Rows.causalOnlyRow.unfollowed == Tryz.pinned.checked.prog.unfollowed 3)) = true := by kernel_rfl
theorem causalOnly_j11 : ((Rows.causalOnlyRow.recurses == Tryz.pinned.checked.prog.recurses 3)) = true := by kernel_rfl
theorem causalOnly_j12 : ((Rows.causalOnlyRow.named == Tryz.pinned.checked.prog.varsNamed 3)) = true := by kernel_rfl
theorem causalOnly_j13 : ((Rows.causalOnlyRow.maps == (Tryz.f3.params.toList ++ Rows.causalOnlySpec.plain.varTypes Tryz.pinned.checked.prog).any (Tryz.pinned.checked.prog.mapsRec ·))) = true := by kernel_rfl
theorem causalOnly_j14 : ((Rows.causalOnlyRow.ifaces == (Tryz.f3.params.toList ++ Rows.causalOnlySpec.plain.varTypes Tryz.pinned.checked.prog).any (Tryz.pinned.checked.prog.ifacesRec ·))) = true := by kernel_rfl
theorem causalOnly_j15 : ((Rows.causalOnlyRow.mapsOut == Tryz.pinned.checked.prog.mapsAmong Tryz.f3.resultTypes.toList)) = true := by kernel_rfl
theorem causalOnly_j16 : ((Rows.causalOnlyRow.loops == (Tryz.f3.params.toList ++ Rows.causalOnlySpec.plain.varTypes Tryz.pinned.checked.prog).any (Tryz.pinned.checked.prog.loopsFrom ·))) = true := by kernel_rfl
theorem causalOnly_j17 : ((Rows.causalOnlyRow.wideKeys == (Tryz.f3.params.toList ++ Rows.causalOnlySpec.plain.varTypes Tryz.pinned.checked.prog ++ Tryz.f3.resultTypes.toList).any (Tryz.pinned.checked.prog.wideKeysFrom ·))) = true := by kernel_rfl
theorem causalOnly_j18 : (Rows.causalOnlySpec.vars.all (Tryz.pinned.checked.prog.varReadable ·)) = true := by kernel_rfl
theorem causalOnly_j19 : (Tryz.f3.resultTypes.all (fun t => Tryz.pinned.checked.prog.readableRec t && decide (t < Tryz.pinned.checked.prog.types.size))) = true := by kernel_rfl
theorem causalOnly_j20 : ((Rows.causalOnlyRow.ifacesOut == Tryz.f3.resultTypes.toList.any (Tryz.pinned.checked.prog.ifacesRec ·))) = true := by kernel_rfl
theorem causalOnly_j21 : ((Rows.causalOnlyRow.loopsOut == Tryz.f3.resultTypes.toList.any (Tryz.pinned.checked.prog.loopsFrom ·))) = true := by kernel_rfl
theorem causalOnly_j22 : ((Rows.causalOnlyRow.plainKeys == Tryz.pinned.checked.prog.plainKeys)) = true := by kernel_rfl
theorem causalOnly_j23 : (Rows.causalOnlyRow.shortTexts.isNone) = true := by kernel_rfl
theorem causalOnly_j26 : ((Rows.causalOnlyRow.lifted == Tryz.pinned.checked.prog.liftsFinal)) = true := by rw [VY]; kernel_rfl
theorem causalOnly_j27 : ((Tryz.pinned.checked.prog.make == some Rows.causalOnlyRow.make)) = true := by rw [qQ1]; kernel_rfl
theorem causalOnly_j28 : ((Rows.causalOnlyRow.kinds == (if Rows.causalOnlyRow.domain.isEmpty then [] else Tryz.f3.params.toList.map fun t => match Tryz.pinned.checked.prog.underlying t with | some (.int k) => some k | _ => none))) = true := by kernel_rfl
theorem causalOnly_j29 : ((Rows.causalOnlyRow.pinned == Rows.causalOnlyRow.pinnedBy)) = true := by kernel_rfl
theorem causalOnly_j30 : ((Rows.causalOnlyRow.veiled == (Tryz.f3.params.toList ++ Rows.causalOnlySpec.plain.varTypes Tryz.pinned.checked.prog ++ Tryz.f3.resultTypes.toList).any (Tryz.pinned.checked.prog.veiledRec ·))) = true := by kernel_rfl
theorem causalOnly_j31 : (Rows.causalOnlyRow.veiledFits Tryz.pinned.checked.prog Tryz.f3.params.toList (Tryz.f3.params.toList ++ Rows.causalOnlySpec.plain.varTypes Tryz.pinned.checked.prog ++ Tryz.f3.resultTypes.toList)) = true := by kernel_rfl
theorem causalOnly_closed : joinedFacts Tryz.pinned.checked.prog 3 Tryz.f3 Rows.causalOnlySpec Rows.causalOnlyRow = true :=
  and2 (and2 (and2 (and2 (and2 (and2 (and2 (and2 (and2 (and2 (and2 (and2 (and2 (and2 (and2 (and2 (and2 (and2 (and2 (and2 (and2 (and2 (and2 (and2 (and2 (and2 (and2 (and2 (and2 (and2 (and2 (causalOnly_j00) VZ) V0) causalOnly_j03) causalOnly_j04) causalOnly_j05) V1) causalOnly_j07) V2) causalOnly_j09) causalOnly_j10) causalOnly_j11) causalOnly_j12) causalOnly_j13) causalOnly_j14) causalOnly_j15) causalOnly_j16) causalOnly_j17) causalOnly_j18) causalOnly_j19) causalOnly_j20) causalOnly_j21) causalOnly_j22) causalOnly_j23) V3) V5) causalOnly_j26) causalOnly_j27) causalOnly_j28) causalOnly_j29) causalOnly_j30) causalOnly_j31

theorem causalOnly_holds : Rows.CausalOnlySaid :=
  OpenClaim.holds_of_wide 3 Tryz.f3 rfl rfl rfl rfl rfl rfl rfl ⟨rfl, rfl, rfl, rfl, rfl⟩ rfl rfl rfl rfl rfl (by kernel_rfl) Tryz.func3 causalOnly_closed
    (of_decide_eq_true (by kernel_rfl)) (by unfold Func.isWrapper; first | (rw [if_pos (by decide +kernel)]; kernel_rfl) | (rw [if_neg (by decide +kernel)]; exact ⟨rfl, rfl⟩))
    (fun os started H enc _ => causalOnly_lifted os started H enc)
end Go.Proofs.YtbcoelggdikipaaGreat
