/- The law CounterAll returns true at every input, and leaves its arguments as they were. No condition. -/
import Derived.Test.YtidebdbjekijkaaGreatUm9
import Derived.Test.YtidebdbjekijkaaGreatUm8
import Derived.Test.YtidebdbjekijkaaGreatUm7
namespace Go.Proofs.YtidebdbjekijkaaGreat
open Go.ChangeShapes Go.WideShapes Go.ChangeAt Go.RowKit
set_option maxRecDepth 100000

theorem counterAll_lifted (os : Os) (started : os.Started) (H : Type) (enc : TypeId × Value → H) :
    ReturnsInHanded {} Tryz.checked os 5 .any (Rows.counterAllSpec.pre6 enc Tryz.prog Tryz.f5 Rows.counterAllRow.domain false) (Rows.counterAllSpec.post enc Tryz.prog Tryz.f5 false true false false) := by
  refine returnsInHanded_of_change_sized (C := Tryz.checked) own started (by kernel_rfl) Tryz.func5
    (ChangeSpec.witness6 (enc := enc) (C := Tryz.checked) false ⟨#[], #[.agg #[.slice none 0 0, .slice none 0 0], .slice none 0 0], []⟩ 8 (by kernel_rfl) (by kernel_rfl) (by kernel_rfl) (by kernel_rfl)) ?_
  intro W base args ds gs before hval0 hW _ hsz0 _
  have hsz : (DataW.weightsEach Tryz.prog (Tryz.f5.params.toList ++ Rows.counterAllSpec.plain.varTypes Tryz.prog) (ds ++ gs)).all (· ≤ reachBytes) = true := hsz0
  clear hsz0
  have hval : ∀ (j : Nat) t v, Tryz.f5.params[j]? = some t → args[j]? = some v → Value.okWide Tryz.prog W .any base t v := hval0
  have hW' := hW
  obtain ⟨p, q, hA0, hV, rfl, _, _⟩ := hW
  have hA : DataW.TrodAll enc Tryz.prog W 0 (fun _ => true) true Tryz.f5.params.toList args.toList ds p := hA0
  rw [Tryz.params5] at hA hval hsz
  have hAll := hA
  have hlt : ∀ x ∈ p, x.block < W.heap.size := fun x hx => hW'.lt x (List.mem_append_left _ hx)
  obtain ⟨v0, v1, d0, d1, p0, p1, rfl, rfl, rfl, h0, h1⟩ := trodAll_two hA
  obtain ⟨rfl, rfl⟩ := trodVars_none hV
  clear hA0 hval0
  simp only [List.append_nil] at hW'
  obtain ⟨t0, ve0, vk0, rfl, ht0⟩ := qXy (hval 0 25 v0 rfl rfl) h0 (fun m hm => by
    have := List.all_eq_true.1 hsz m (DataW.weights_mem_each (j := 0) (t := 25) (d := d0) rfl rfl m hm)
    simpa using this)
  obtain ⟨l1, hl1⟩ := qX0 (hval 1 47 v1 rfl rfl) h1 (fun m hm => by
    have := List.all_eq_true.1 hsz m (DataW.weights_mem_each (j := 1) (t := 47) (d := d1) rfl rfl m hm)
    simpa using this)
  refine (qZt t0 l1 W ve0 vk0 v1 ht0 hl1).mono fun e W' ⟨he, hb⟩ => ?_
  subst he
  have hargs := Yr qY6 _ _ _ _ (fun t ht => by simp at ht; rcases ht with rfl | rfl <;> first | exact qJo | exact qXz) hAll hb hlt
  exact ⟨_, rfl, _, _, _, [], _, [], hW', trodAll_mk1 (shut_bool Tryz.underlying4 _), hargs, rfl, hb.frame _, fun h => by cases h⟩

theorem counterAll_j00 : (Rows.counterAllRow.wf (OpenSpec.ofChange Rows.counterAllSpec)) = true := by kernel_rfl
theorem counterAll_j03 : (Tryz.f5.params.all (Tryz.pinned.checked.prog.readableRec ·)) = true := by kernel_rfl
theorem counterAll_j04 : (namedTie Tryz.pinned.checked.prog Rows.counterAllRow.named Rows.counterAllSpec.vars) = true := by kernel_rfl
theorem counterAll_j05 : ((Rows.counterAllRow.stops == [])) = true := by kernel_rfl
theorem counterAll_j07 : ((Rows.counterAllRow.knobs == [])) = true := by kernel_rfl
theorem counterAll_j09 : ((Rows.counterAllRow.inPlace == Tryz.pinned.checked.prog.inPlace 5)) = true := by kernel_rfl
theorem counterAll_j10 : ((Rows.counterAllRow.unfollowed == Tryz.pinned.checked.prog.unfollowed 5)) = true := by kernel_rfl
theorem counterAll_j11 : ((Rows.counterAllRow.recurses == Tryz.pinned.checked.prog.recurses 5)) = true := by kernel_rfl
theorem counterAll_j12 : ((Rows.counterAllRow.named == Tryz.pinned.checked.prog.varsNamed 5)) = true := by kernel_rfl
theorem counterAll_j13 : ((Rows.counterAllRow.maps == (Tryz.f5.params.toList ++ Rows.counterAllSpec.plain.varTypes Tryz.pinned.checked.prog).any (Tryz.pinned.checked.prog.mapsRec ·))) = true := by kernel_rfl
theorem counterAll_j14 : ((Rows.counterAllRow.ifaces == (Tryz.f5.params.toList ++ Rows.counterAllSpec.plain.varTypes Tryz.pinned.checked.prog).any (Tryz.pinned.checked.prog.ifacesRec ·))) = true := by kernel_rfl
theorem counterAll_j15 : ((Rows.counterAllRow.mapsOut == Tryz.pinned.checked.prog.mapsAmong Tryz.f5.resultTypes.toList)) = true := by kernel_rfl
theorem counterAll_j16 : ((Rows.counterAllRow.loops == (Tryz.f5.params.toList ++ Rows.counterAllSpec.plain.varTypes Tryz.pinned.checked.prog).any (Tryz.pinned.checked.prog.loopsFrom ·))) = true := by kernel_rfl
theorem counterAll_j17 : ((Rows.counterAllRow.wideKeys == (Tryz.f5.params.toList ++ Rows.counterAllSpec.plain.varTypes Tryz.pinned.checked.prog ++ Tryz.f5.resultTypes.toList).any (Tryz.pinned.checked.prog.wideKeysFrom ·))) = true := by kernel_rfl
theorem counterAll_j18 : (Rows.counterAllSpec.vars.all (Tryz.pinned.checked.prog.varReadable ·)) = true := by kernel_rfl
theorem counterAll_j19 : (Tryz.f5.resultTypes.all (fun t => Tryz.pinned.checked.prog.readableRec t && decide (t < Tryz.pinned.checked.prog.types.size))) = true := by kernel_rfl
theorem counterAll_j20 : ((Rows.counterAllRow.ifacesOut == Tryz.f5.resultTypes.toList.any (Tryz.pinned.checked.prog.ifacesRec ·))) = true := by kernel_rfl
theorem counterAll_j21 : ((Rows.counterAllRow.loopsOut == Tryz.f5.resultTypes.toList.any (Tryz.pinned.checked.prog.loopsFrom ·))) = true := by kernel_rfl
theorem counterAll_j22 : ((Rows.counterAllRow.plainKeys == Tryz.pinned.checked.prog.plainKeys)) = true := by kernel_rfl
theorem counterAll_j23 : (Rows.counterAllRow.shortTexts.isNone) = true := by kernel_rfl
theorem counterAll_j26 : ((Rows.counterAllRow.lifted == Tryz.pinned.checked.prog.liftsFinal)) = true := by rw [qZv]; kernel_rfl
theorem counterAll_j27 : ((Tryz.pinned.checked.prog.make == some Rows.counterAllRow.make)) = true := by rw [qX4]; kernel_rfl
theorem counterAll_j28 : ((Rows.counterAllRow.kinds == (if Rows.counterAllRow.domain.isEmpty then [] else Tryz.f5.params.toList.map fun t => match Tryz.pinned.checked.prog.underlying t with | some (.int k) => some k | _ => none))) = true := by kernel_rfl
theorem counterAll_j29 : ((Rows.counterAllRow.pinned == Rows.counterAllRow.pinnedBy)) = true := by kernel_rfl
theorem counterAll_j30 : ((Rows.counterAllRow.veiled == (Tryz.f5.params.toList ++ Rows.counterAllSpec.plain.varTypes Tryz.pinned.checked.prog ++ Tryz.f5.resultTypes.toList).any (Tryz.pinned.checked.prog.veiledRec ·))) = true := by kernel_rfl
theorem counterAll_j31 : (Rows.counterAllRow.veiledFits Tryz.pinned.checked.prog Tryz.f5.params.toList (Tryz.f5.params.toList ++ Rows.counterAllSpec.plain.varTypes Tryz.pinned.checked.prog ++ Tryz.f5.resultTypes.toList)) = true := by kernel_rfl
theorem counterAll_closed : joinedFacts Tryz.pinned.checked.prog 5 Tryz.f5 Rows.counterAllSpec Rows.counterAllRow = true :=
  and2 (and2 (and2 (and2 (and2 (and2 (and2 (and2 (and2 (and2 (and2 (and2 (and2 (and2 (and2 (and2 (and2 (and2 (and2 (and2 (and2 (and2 (and2 (and2 (and2 (and2 (and2 (and2 (and2 (and2 (and2 (counterAll_j00) qZw) qZx) counterAll_j03) counterAll_j04) counterAll_j05) qZy) counterAll_j07) qZz) counterAll_j09) counterAll_j10) counterAll_j11) counterAll_j12) counterAll_j13) counterAll_j14) counterAll_j15) counterAll_j16) counterAll_j17) counterAll_j18) counterAll_j19) counterAll_j20) counterAll_j21) counterAll_j22) counterAll_j23) qZ0) qZ2) counterAll_j26) counterAll_j27) counterAll_j28) counterAll_j29) counterAll_j30) counterAll_j31

theorem counterAll_holds : Rows.CounterAllSaid :=
  OpenClaim.holds_of_wide 5 Tryz.f5 rfl rfl rfl rfl rfl rfl rfl ⟨rfl, rfl, rfl, rfl, rfl⟩ rfl rfl rfl rfl rfl (by kernel_rfl) Tryz.func5 counterAll_closed
    (of_decide_eq_true (by kernel_rfl)) (by unfold Func.isWrapper; first | (rw [if_pos (by decide +kernel)]; kernel_rfl) | (rw [if_neg (by decide +kernel)]; exact ⟨rfl, rfl⟩))
    (fun os started H enc _ => counterAll_lifted os started H enc)
end Go.Proofs.YtidebdbjekijkaaGreat
