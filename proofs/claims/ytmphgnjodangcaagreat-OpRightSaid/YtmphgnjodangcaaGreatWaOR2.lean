/- The law OpRight returns true at every input, and leaves its arguments as they were. No condition. -/
import Derived.Test.YtmphgnjodangcaaGreatWa11
namespace Go.Proofs.YtmphgnjodangcaaGreat
open Go.ChangeShapes Go.WideShapes Go.ChangeAt Go.RowKit
set_option maxRecDepth 100000

theorem opRight_lifted (os : Os) (started : os.Started) (H : Type) (enc : TypeId × Value → H) :
    ReturnsInHanded {} Tryz.checked os 14 .any (Rows.opRightSpec.pre6 enc Tryz.prog Tryz.f14 Rows.opRightRow.domain false) (Rows.opRightSpec.post enc Tryz.prog Tryz.f14 false true false false) := by
  refine returnsInHanded_of_change_sized (C := Tryz.checked) own started (by kernel_rfl) Tryz.func14
    (ChangeSpec.witness6 (enc := enc) (C := Tryz.checked) false ⟨#[], #[.agg #[.slice none 0 0, .int .i64 0, .string ByteArray.empty, .int .i64 0]], []⟩ 8 (by kernel_rfl) (by kernel_rfl) (by kernel_rfl) (by kernel_rfl)) ?_
  intro W base args ds gs before hval0 hW _ hsz0 _
  have hsz : (DataW.weightsEach Tryz.prog (Tryz.f14.params.toList ++ Rows.opRightSpec.plain.varTypes Tryz.prog) (ds ++ gs)).all (· ≤ reachBytes) = true := hsz0
  clear hsz0
  have hval : ∀ (j : Nat) t v, Tryz.f14.params[j]? = some t → args[j]? = some v → Value.okWide Tryz.prog W .any base t v := hval0
  have hW' := hW
  obtain ⟨p, q, hA0, hV, rfl, _, _⟩ := hW
  have hA : DataW.TrodAll enc Tryz.prog W 0 (fun _ => true) true Tryz.f14.params.toList args.toList ds p := hA0
  rw [Tryz.params14] at hA hval hsz
  have hAll := hA
  have hlt : ∀ x ∈ p, x.block < W.heap.size := fun x hx => hW'.lt x (List.mem_append_left _ hx)
  obtain ⟨v0, d0, rfl, rfl, h0⟩ := trodAll_one hA
  obtain ⟨rfl, rfl⟩ := trodVars_none hV
  clear hA0 hval0
  simp only [List.append_nil] at hW'
  obtain ⟨o0, vp0, rfl, hl0, ho0⟩ := op_arg (hval 0 80 v0 rfl rfl) h0 (fun m hm => by
    have := List.all_eq_true.1 hsz m (DataW.weights_mem_each (j := 0) (t := 80) (d := d0) rfl rfl m hm)
    simpa using this)
  refine (lawOR_any o0 W vp0 hl0 ho0).mono fun e W' ⟨he, hb⟩ => ?_
  subst he
  have hargs := trodAll_below laidOut _ _ _ _ (fun t ht => by simp at ht; subst ht; exact okOp) hAll hb hlt
  exact ⟨_, rfl, _, _, _, [], _, [], hW', trodAll_mk1 (shut_bool Tryz.underlying4 _), hargs, rfl, hb.frame _, fun h => by cases h⟩

theorem opRight_j00 : (Rows.opRightRow.wf (OpenSpec.ofChange Rows.opRightSpec)) = true := by kernel_rfl
theorem opRight_j03 : (Tryz.f14.params.all (Tryz.pinned.checked.prog.readableRec ·)) = true := by kernel_rfl
theorem opRight_j04 : (namedTie Tryz.pinned.checked.prog Rows.opRightRow.named Rows.opRightSpec.vars) = true := by kernel_rfl
theorem opRight_j05 : ((Rows.opRightRow.stops == [])) = true := by kernel_rfl
theorem opRight_j07 : ((Rows.opRightRow.knobs == [])) = true := by kernel_rfl
theorem opRight_j09 : ((Rows.opRightRow.inPlace == Tryz.pinned.checked.prog.inPlace 14)) = true := by kernel_rfl
theorem opRight_j10 : ((Rows.opRightRow.unfollowed == Tryz.pinned.checked.prog.unfollowed 14)) = true := by kernel_rfl
theorem opRight_j11 : ((Rows.opRightRow.recurses == Tryz.pinned.checked.prog.recurses 14)) = true := by kernel_rfl
theorem opRight_j12 : ((Rows.opRightRow.named == Tryz.pinned.checked.prog.varsNamed 14)) = true := by kernel_rfl
theorem opRight_j13 : ((Rows.opRightRow.maps == (Tryz.f14.params.toList ++ Rows.opRightSpec.plain.varTypes Tryz.pinned.checked.prog).any (Tryz.pinned.checked.prog.mapsRec ·))) = true := by kernel_rfl
theorem opRight_j14 : ((Rows.opRightRow.ifaces == (Tryz.f14.params.toList ++ Rows.opRightSpec.plain.varTypes Tryz.pinned.checked.prog).any (Tryz.pinned.checked.prog.ifacesRec ·))) = true := by kernel_rfl
theorem opRight_j15 : ((Rows.opRightRow.mapsOut == Tryz.pinned.checked.prog.mapsAmong Tryz.f14.resultTypes.toList)) = true := by kernel_rfl
theorem opRight_j16 : ((Rows.opRightRow.loops == (Tryz.f14.params.toList ++ Rows.opRightSpec.plain.varTypes Tryz.pinned.checked.prog).any (Tryz.pinned.checked.prog.loopsFrom ·))) = true := by kernel_rfl
theorem opRight_j17 : ((Rows.opRightRow.wideKeys == (Tryz.f14.params.toList ++ Rows.opRightSpec.plain.varTypes Tryz.pinned.checked.prog ++ Tryz.f14.resultTypes.toList).any (Tryz.pinned.checked.prog.wideKeysFrom ·))) = true := by kernel_rfl
theorem opRight_j18 : (Rows.opRightSpec.vars.all (Tryz.pinned.checked.prog.varReadable ·)) = true := by kernel_rfl
theorem opRight_j19 : (Tryz.f14.resultTypes.all (fun t => Tryz.pinned.checked.prog.readableRec t && decide (t < Tryz.pinned.checked.prog.types.size))) = true := by kernel_rfl
theorem opRight_j20 : ((Rows.opRightRow.ifacesOut == Tryz.f14.resultTypes.toList.any (Tryz.pinned.checked.prog.ifacesRec ·))) = true := by kernel_rfl
theorem opRight_j21 : ((Rows.opRightRow.loopsOut == Tryz.f14.resultTypes.toList.any (Tryz.pinned.checked.prog.loopsFrom ·))) = true := by kernel_rfl
theorem opRight_j22 : ((Rows.opRightRow.plainKeys == Tryz.pinned.checked.prog.plainKeys)) = true := by kernel_rfl
theorem opRight_j23 : (Rows.opRightRow.shortTexts.isNone) = true := by kernel_rfl
theorem opRight_j26 : ((Rows.opRightRow.lifted == Tryz.pinned.checked.prog.liftsFinal)) = true := by rw [headFinal]; kernel_rfl
theorem opRight_j27 : ((Tryz.pinned.checked.prog.make == some Rows.opRightRow.make)) = true := by rw [headMake]; kernel_rfl
theorem opRight_j28 : ((Rows.opRightRow.kinds == (if Rows.opRightRow.domain.isEmpty then [] else Tryz.f14.params.toList.map fun t => match Tryz.pinned.checked.prog.underlying t with | some (.int k) => some k | _ => none))) = true := by kernel_rfl
theorem opRight_j29 : ((Rows.opRightRow.pinned == Rows.opRightRow.pinnedBy)) = true := by kernel_rfl
theorem opRight_j30 : ((Rows.opRightRow.veiled == (Tryz.f14.params.toList ++ Rows.opRightSpec.plain.varTypes Tryz.pinned.checked.prog ++ Tryz.f14.resultTypes.toList).any (Tryz.pinned.checked.prog.veiledRec ·))) = true := by kernel_rfl
theorem opRight_j31 : (Rows.opRightRow.veiledFits Tryz.pinned.checked.prog Tryz.f14.params.toList (Tryz.f14.params.toList ++ Rows.opRightSpec.plain.varTypes Tryz.pinned.checked.prog ++ Tryz.f14.resultTypes.toList)) = true := by kernel_rfl
theorem opRight_closed : joinedFacts Tryz.pinned.checked.prog 14 Tryz.f14 Rows.opRightSpec Rows.opRightRow = true :=
  and2 (and2 (and2 (and2 (and2 (and2 (and2 (and2 (and2 (and2 (and2 (and2 (and2 (and2 (and2 (and2 (and2 (and2 (and2 (and2 (and2 (and2 (and2 (and2 (and2 (and2 (and2 (and2 (and2 (and2 (and2 (opRight_j00) closedP01) closedP02) opRight_j03) opRight_j04) opRight_j05) closedP06) opRight_j07) closedP08) opRight_j09) opRight_j10) opRight_j11) opRight_j12) opRight_j13) opRight_j14) opRight_j15) opRight_j16) opRight_j17) opRight_j18) opRight_j19) opRight_j20) opRight_j21) opRight_j22) opRight_j23) closedP24) closedP25) opRight_j26) opRight_j27) opRight_j28) opRight_j29) opRight_j30) opRight_j31

theorem opRight_holds : Rows.OpRightSaid :=
  OpenClaim.holds_of_wide 14 Tryz.f14 rfl rfl rfl rfl rfl rfl rfl ⟨rfl, rfl, rfl, rfl, rfl⟩ rfl rfl rfl rfl rfl (by kernel_rfl) Tryz.func14 opRight_closed
    (of_decide_eq_true (by kernel_rfl)) (by unfold Func.isWrapper; first | (rw [if_pos (by decide +kernel)]; kernel_rfl) | (rw [if_neg (by decide +kernel)]; exact ⟨rfl, rfl⟩))
    (fun os started H enc _ => opRight_lifted os started H enc)
end Go.Proofs.YtmphgnjodangcaaGreat
