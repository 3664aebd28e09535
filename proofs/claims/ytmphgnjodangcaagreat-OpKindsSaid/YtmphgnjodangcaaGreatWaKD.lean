/- The law OpKinds returns true at every input, and leaves its arguments as they were. No condition. -/
import Derived.Test.YtmphgnjodangcaaGreatWa11
namespace Go.Proofs.YtmphgnjodangcaaGreat
open Go.ChangeShapes Go.WideShapes Go.ChangeAt Go.RowKit
set_option maxRecDepth 100000

theorem opKinds_lifted (os : Os) (started : os.Started) (H : Type) (enc : TypeId × Value → H) :
    ReturnsInHanded {} Tryz.checked os 11 .any (Rows.opKindsSpec.pre6 enc Tryz.prog Tryz.f11 Rows.opKindsRow.domain false) (Rows.opKindsSpec.post enc Tryz.prog Tryz.f11 false true false false) := by
  refine returnsInHanded_of_change_sized (C := Tryz.checked) own started (by kernel_rfl) Tryz.func11
    (ChangeSpec.witness6 (enc := enc) (C := Tryz.checked) false ⟨#[], #[.string ByteArray.empty], []⟩ 8 (by kernel_rfl) (by kernel_rfl) (by kernel_rfl) (by kernel_rfl)) ?_
  intro W base args ds gs before hval0 hW _ hsz0 _
  have hsz : (DataW.weightsEach Tryz.prog (Tryz.f11.params.toList ++ Rows.opKindsSpec.plain.varTypes Tryz.prog) (ds ++ gs)).all (· ≤ reachBytes) = true := hsz0
  clear hsz0
  have hval : ∀ (j : Nat) t v, Tryz.f11.params[j]? = some t → args[j]? = some v → Value.okWide Tryz.prog W .any base t v := hval0
  have hW' := hW
  obtain ⟨p, q, hA0, hV, rfl, _, _⟩ := hW
  have hA : DataW.TrodAll enc Tryz.prog W 0 (fun _ => true) true Tryz.f11.params.toList args.toList ds p := hA0
  rw [Tryz.params11] at hA hval hsz
  have hAll := hA
  have hlt : ∀ x ∈ p, x.block < W.heap.size := fun x hx => hW'.lt x (List.mem_append_left _ hx)
  obtain ⟨v0, d0, rfl, rfl, h0⟩ := trodAll_one hA
  obtain ⟨rfl, rfl⟩ := trodVars_none hV
  clear hA0 hval0
  simp only [List.append_nil] at hW'
  obtain ⟨s0, rfl, hs0⟩ := str_arg (hval 0 9 v0 rfl rfl) h0 (fun m hm => by
    have := List.all_eq_true.1 hsz m (DataW.weights_mem_each (j := 0) (t := 9) (d := d0) rfl rfl m hm)
    simpa using this)
  refine (lawKD_any s0 W  hs0).mono fun e W' ⟨he, hb⟩ => ?_
  subst he
  have hargs := trodAll_below laidOut _ _ _ _ (fun t ht => by simp at ht; subst ht; exact okString) hAll hb hlt
  exact ⟨_, rfl, _, _, _, [], _, [], hW', trodAll_mk1 (shut_bool Tryz.underlying4 _), hargs, rfl, hb.frame _, fun h => by cases h⟩

theorem opKinds_j00 : (Rows.opKindsRow.wf (OpenSpec.ofChange Rows.opKindsSpec)) = true := by kernel_rfl
theorem opKinds_j03 : (Tryz.f11.params.all (Tryz.pinned.checked.prog.readableRec ·)) = true := by kernel_rfl
theorem opKinds_j04 : (namedTie Tryz.pinned.checked.prog Rows.opKindsRow.named Rows.opKindsSpec.vars) = true := by kernel_rfl
theorem opKinds_j05 : ((Rows.opKindsRow.stops == [])) = true := by kernel_rfl
theorem opKinds_j07 : ((Rows.opKindsRow.knobs == [])) = true := by kernel_rfl
theorem opKinds_j09 : ((Rows.opKindsRow.inPlace == Tryz.pinned.checked.prog.inPlace 11)) = true := by kernel_rfl
theorem opKinds_j10 : ((Rows.opKindsRow.unfollowed == Tryz.pinned.checked.prog.unfollowed 11)) = true := by kernel_rfl
theorem opKinds_j11 : ((Rows.opKindsRow.recurses == Tryz.pinned.checked.prog.recurses 11)) = true := by kernel_rfl
theorem opKinds_j12 : ((Rows.opKindsRow.named == Tryz.pinned.checked.prog.varsNamed 11)) = true := by kernel_rfl
theorem opKinds_j13 : ((Rows.opKindsRow.maps == (Tryz.f11.params.toList ++ Rows.opKindsSpec.plain.varTypes Tryz.pinned.checked.prog).any (Tryz.pinned.checked.prog.mapsRec ·))) = true := by kernel_rfl
theorem opKinds_j14 : ((Rows.opKindsRow.ifaces == (Tryz.f11.params.toList ++ Rows.opKindsSpec.plain.varTypes Tryz.pinned.checked.prog).any (Tryz.pinned.checked.prog.ifacesRec ·))) = true := by kernel_rfl
theorem opKinds_j15 : ((Rows.opKindsRow.mapsOut == Tryz.pinned.checked.prog.mapsAmong Tryz.f11.resultTypes.toList)) = true := by kernel_rfl
theorem opKinds_j16 : ((Rows.opKindsRow.loops == (Tryz.f11.params.toList ++ Rows.opKindsSpec.plain.varTypes Tryz.pinned.checked.prog).any (Tryz.pinned.checked.prog.loopsFrom ·))) = true := by kernel_rfl
theorem opKinds_j17 : ((Rows.opKindsRow.wideKeys == (Tryz.f11.params.toList ++ Rows.opKindsSpec.plain.varTypes Tryz.pinned.checked.prog ++ Tryz.f11.resultTypes.toList).any (Tryz.pinned.checked.prog.wideKeysFrom ·))) = true := by kernel_rfl
theorem opKinds_j18 : (Rows.opKindsSpec.vars.all (Tryz.pinned.checked.prog.varReadable ·)) = true := by kernel_rfl
theorem opKinds_j19 : (Tryz.f11.resultTypes.all (fun t => Tryz.pinned.checked.prog.readableRec t && decide (t < Tryz.pinned.checked.prog.types.size))) = true := by kernel_rfl
theorem opKinds_j20 : ((Rows.opKindsRow.ifacesOut == Tryz.f11.resultTypes.toList.any (Tryz.pinned.checked.prog.ifacesRec ·))) = true := by kernel_rfl
theorem opKinds_j21 : ((Rows.opKindsRow.loopsOut == Tryz.f11.resultTypes.toList.any (Tryz.pinned.checked.prog.loopsFrom ·))) = true := by kernel_rfl
theorem opKinds_j22 : ((Rows.opKindsRow.plainKeys == Tryz.pinned.checked.prog.plainKeys)) = true := by kernel_rfl
theorem opKinds_j23 : (Rows.opKindsRow.shortTexts.isNone) = true := by kernel_rfl
theorem opKinds_j26 : ((Rows.opKindsRow.lifted == Tryz.pinned.checked.prog.liftsFinal)) = true := by rw [headFinal]; kernel_rfl
theorem opKinds_j27 : ((Tryz.pinned.checked.prog.make == some Rows.opKindsRow.make)) = true := by rw [headMake]; kernel_rfl
theorem opKinds_j28 : ((Rows.opKindsRow.kinds == (if Rows.opKindsRow.domain.isEmpty then [] else Tryz.f11.params.toList.map fun t => match Tryz.pinned.checked.prog.underlying t with | some (.int k) => some k | _ => none))) = true := by kernel_rfl
theorem opKinds_j29 : ((Rows.opKindsRow.pinned == Rows.opKindsRow.pinnedBy)) = true := by kernel_rfl
theorem opKinds_j30 : ((Rows.opKindsRow.veiled == (Tryz.f11.params.toList ++ Rows.opKindsSpec.plain.varTypes Tryz.pinned.checked.prog ++ Tryz.f11.resultTypes.toList).any (Tryz.pinned.checked.prog.veiledRec ·))) = true := by kernel_rfl
theorem opKinds_j31 : (Rows.opKindsRow.veiledFits Tryz.pinned.checked.prog Tryz.f11.params.toList (Tryz.f11.params.toList ++ Rows.opKindsSpec.plain.varTypes Tryz.pinned.checked.prog ++ Tryz.f11.resultTypes.toList)) = true := by kernel_rfl
theorem opKinds_closed : joinedFacts Tryz.pinned.checked.prog 11 Tryz.f11 Rows.opKindsSpec Rows.opKindsRow = true :=
  and2 (and2 (and2 (and2 (and2 (and2 (and2 (and2 (and2 (and2 (and2 (and2 (and2 (and2 (and2 (and2 (and2 (and2 (and2 (and2 (and2 (and2 (and2 (and2 (and2 (and2 (and2 (and2 (and2 (and2 (and2 (opKinds_j00) closedP01) closedP02) opKinds_j03) opKinds_j04) opKinds_j05) closedP06) opKinds_j07) closedP08) opKinds_j09) opKinds_j10) opKinds_j11) opKinds_j12) opKinds_j13) opKinds_j14) opKinds_j15) opKinds_j16) opKinds_j17) opKinds_j18) opKinds_j19) opKinds_j20) opKinds_j21) opKinds_j22) opKinds_j23) closedP24) closedP25) opKinds_j26) opKinds_j27) opKinds_j28) opKinds_j29) opKinds_j30) opKinds_j31

theorem opKinds_holds : Rows.OpKindsSaid :=
  OpenClaim.holds_of_wide 11 Tryz.f11 rfl rfl rfl rfl rfl rfl rfl ⟨rfl, rfl, rfl, rfl, rfl⟩ rfl rfl rfl rfl rfl (by kernel_rfl) Tryz.func11 opKinds_closed
    (of_decide_eq_true (by kernel_rfl)) (by unfold Func.isWrapper; first | (rw [if_pos (by decide +kernel)]; kernel_rfl) | (rw [if_neg (by decide +kernel)]; exact ⟨rfl, rfl⟩))
    (fun os started H enc _ => opKinds_lifted os started H enc)
end Go.Proofs.YtmphgnjodangcaaGreat
