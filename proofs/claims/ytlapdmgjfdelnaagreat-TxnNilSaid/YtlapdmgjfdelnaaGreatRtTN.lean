/- The law TxnNil returns true at every input, and leaves its arguments as they were. No condition. -/
import Derived.Test.YtlapdmgjfdelnaaGreatRt11
namespace Go.Proofs.YtlapdmgjfdelnaaGreat
open Go.ChangeShapes Go.WideShapes Go.ChangeAt Go.RowKit
set_option maxRecDepth 100000

theorem txnNil_lifted (os : Os) (started : os.Started) (H : Type) (enc : TypeId × Value → H) :
    ReturnsInHanded {} Tryz.checked os 14 .any (Rows.txnNilSpec.pre6 enc Tryz.prog Tryz.f14 Rows.txnNilRow.domain false) (Rows.txnNilSpec.post enc Tryz.prog Tryz.f14 false true false false) := by
  refine returnsInHanded_of_change_sized (C := Tryz.checked) own started (by kernel_rfl) Tryz.func14
    (ChangeSpec.witness6 (enc := enc) (C := Tryz.checked) false ⟨#[], #[.agg #[.slice none 0 0, .int .i64 0, .string ByteArray.empty, .int .i64 0], .int .i64 0, .int .i64 0], []⟩ 8 (by kernel_rfl) (by kernel_rfl) (by kernel_rfl) (by kernel_rfl)) ?_
  intro W base args ds gs before hval0 hW _ hsz0 _
  have hsz : (DataW.weightsEach Tryz.prog (Tryz.f14.params.toList ++ Rows.txnNilSpec.plain.varTypes Tryz.prog) (ds ++ gs)).all (· ≤ reachBytes) = true := hsz0
  clear hsz0
  have hval : ∀ (j : Nat) t v, Tryz.f14.params[j]? = some t → args[j]? = some v → Value.okWide Tryz.prog W .any base t v := hval0
  have hW' := hW
  obtain ⟨p, q, hA0, hV, rfl, _, _⟩ := hW
  have hA : DataW.TrodAll enc Tryz.prog W 0 (fun _ => true) true Tryz.f14.params.toList args.toList ds p := hA0
  rw [Tryz.params14] at hA hval hsz
  have hAll := hA
  have hlt : ∀ x ∈ p, x.block < W.heap.size := fun x hx => hW'.lt x (List.mem_append_left _ hx)
  obtain ⟨v0, v1, v2, d0, d1, d2, p0, p1, p2, rfl, rfl, rfl, h0, h1, h2⟩ := trodAll_three hA
  obtain ⟨rfl, rfl⟩ := trodVars_none hV
  clear hA0 hval0
  simp only [List.append_nil] at hW'
  obtain ⟨o0, vp0, rfl, hl0, ho0⟩ := op_arg (hval 0 67 v0 rfl rfl) h0 (fun m hm => by
    have := List.all_eq_true.1 hsz m (DataW.weights_mem_each (j := 0) (t := 67) (d := d0) rfl rfl m hm)
    simpa using this)
  obtain ⟨n1, rfl, hn1⟩ := intp_arg (hval 1 3 v1 rfl rfl) h1
  obtain ⟨n2, rfl, hn2⟩ := int_arg (hval 2 2 v2 rfl rfl) h2
  refine (lawTN_any o0 n1 n2 W vp0 hl0 ho0 hn1 hn2).mono fun e W' ⟨he, hb⟩ => ?_
  subst he
  have hargs := trodAll_below laidOut _ _ _ _ (fun t ht => by simp at ht; rcases ht with rfl | rfl | rfl <;> first | exact okOp | exact okInt | exact okInt64) hAll hb hlt
  exact ⟨_, rfl, _, _, _, [], _, [], hW', trodAll_mk1 (shut_bool Tryz.underlying4 _), hargs, rfl, hb.frame _, fun h => by cases h⟩

theorem txnNil_j00 : (Rows.txnNilRow.wf (OpenSpec.ofChange Rows.txnNilSpec)) = true := by kernel_rfl
theorem txnNil_j03 : (Tryz.f14.params.all (Tryz.pinned.checked.prog.readableRec ·)) = true := by kernel_rfl
theorem txnNil_j04 : (namedTie Tryz.pinned.checked.prog Rows.txnNilRow.named Rows.txnNilSpec.vars) = true := by kernel_rfl
theorem txnNil_j05 : ((Rows.txnNilRow.stops == [])) = true := by kernel_rfl
theorem txnNil_j07 : ((Rows.txnNilRow.knobs == [])) = true := by kernel_rfl
theorem txnNil_j09 : ((Rows.txnNilRow.inPlace == Tryz.pinned.checked.prog.inPlace 14)) = true := by kernel_rfl
theorem txnNil_j10 : ((Rows.txnNilRow.unfollowed == Tryz.pinned.checked.prog.unfollowed 14)) = true := by kernel_rfl
theorem txnNil_j11 : ((Rows.txnNilRow.recurses == Tryz.pinned.checked.prog.recurses 14)) = true := by kernel_rfl
theorem txnNil_j12 : ((Rows.txnNilRow.named == Tryz.pinned.checked.prog.varsNamed 14)) = true := by kernel_rfl
theorem txnNil_j13 : ((Rows.txnNilRow.maps == (Tryz.f14.params.toList ++ Rows.txnNilSpec.plain.varTypes Tryz.pinned.checked.prog).any (Tryz.pinned.checked.prog.mapsRec ·))) = true := by kernel_rfl
theorem txnNil_j14 : ((Rows.txnNilRow.ifaces == (Tryz.f14.params.toList ++ Rows.txnNilSpec.plain.varTypes Tryz.pinned.checked.prog).any (Tryz.pinned.checked.prog.ifacesRec ·))) = true := by kernel_rfl
theorem txnNil_j15 : ((Rows.txnNilRow.mapsOut == Tryz.pinned.checked.prog.mapsAmong Tryz.f14.resultTypes.toList)) = true := by kernel_rfl
theorem txnNil_j16 : ((Rows.txnNilRow.loops == (Tryz.f14.params.toList ++ Rows.txnNilSpec.plain.varTypes Tryz.pinned.checked.prog).any (Tryz.pinned.checked.prog.loopsFrom ·))) = true := by kernel_rfl
theorem txnNil_j17 : ((Rows.txnNilRow.wideKeys == (Tryz.f14.params.toList ++ Rows.txnNilSpec.plain.varTypes Tryz.pinned.checked.prog ++ Tryz.f14.resultTypes.toList).any (Tryz.pinned.checked.prog.wideKeysFrom ·))) = true := by kernel_rfl
theorem txnNil_j18 : (Rows.txnNilSpec.vars.all (Tryz.pinned.checked.prog.varReadable ·)) = true := by kernel_rfl
theorem txnNil_j19 : (Tryz.f14.resultTypes.all (fun t => Tryz.pinned.checked.prog.readableRec t && decide (t < Tryz.pinned.checked.prog.types.size))) = true := by kernel_rfl
theorem txnNil_j20 : ((Rows.txnNilRow.ifacesOut == Tryz.f14.resultTypes.toList.any (Tryz.pinned.checked.prog.ifacesRec ·))) = true := by kernel_rfl
theorem txnNil_j21 : ((Rows.txnNilRow.loopsOut == Tryz.f14.resultTypes.toList.any (Tryz.pinned.checked.prog.loopsFrom ·))) = true := by kernel_rfl
theorem txnNil_j22 : ((Rows.txnNilRow.plainKeys == Tryz.pinned.checked.prog.plainKeys)) = true := by kernel_rfl
theorem txnNil_j23 : (Rows.txnNilRow.shortTexts.isNone) = true := by kernel_rfl
theorem txnNil_j26 : ((Rows.txnNilRow.lifted == Tryz.pinned.checked.prog.liftsFinal)) = true := by rw [headFinal]; kernel_rfl
theorem txnNil_j27 : ((Tryz.pinned.checked.prog.make == some Rows.txnNilRow.make)) = true := by rw [headMake]; kernel_rfl
theorem txnNil_j28 : ((Rows.txnNilRow.kinds == (if Rows.txnNilRow.domain.isEmpty then [] else Tryz.f14.params.toList.map fun t => match Tryz.pinned.checked.prog.underlying t with | some (.int k) => some k | _ => none))) = true := by kernel_rfl
theorem txnNil_j29 : ((Rows.txnNilRow.pinned == Rows.txnNilRow.pinnedBy)) = true := by kernel_rfl
theorem txnNil_j30 : ((Rows.txnNilRow.veiled == (Tryz.f14.params.toList ++ Rows.txnNilSpec.plain.varTypes Tryz.pinned.checked.prog ++ Tryz.f14.resultTypes.toList).any (Tryz.pinned.checked.prog.veiledRec ·))) = true := by kernel_rfl
theorem txnNil_j31 : (Rows.txnNilRow.veiledFits Tryz.pinned.checked.prog Tryz.f14.params.toList (Tryz.f14.params.toList ++ Rows.txnNilSpec.plain.varTypes Tryz.pinned.checked.prog ++ Tryz.f14.resultTypes.toList)) = true := by kernel_rfl
theorem txnNil_closed : joinedFacts Tryz.pinned.checked.prog 14 Tryz.f14 Rows.txnNilSpec Rows.txnNilRow = true :=
  and2 (and2 (and2 (and2 (and2 (and2 (and2 (and2 (and2 (and2 (and2 (and2 (and2 (and2 (and2 (and2 (and2 (and2 (and2 (and2 (and2 (and2 (and2 (and2 (and2 (and2 (and2 (and2 (and2 (and2 (and2 (txnNil_j00) closedP01) closedP02) txnNil_j03) txnNil_j04) txnNil_j05) closedP06) txnNil_j07) closedP08) txnNil_j09) txnNil_j10) txnNil_j11) txnNil_j12) txnNil_j13) txnNil_j14) txnNil_j15) txnNil_j16) txnNil_j17) txnNil_j18) txnNil_j19) txnNil_j20) txnNil_j21) txnNil_j22) txnNil_j23) closedP24) closedP25) txnNil_j26) txnNil_j27) txnNil_j28) txnNil_j29) txnNil_j30) txnNil_j31

theorem txnNil_holds : Rows.TxnNilSaid :=
  OpenClaim.holds_of_wide 14 Tryz.f14 rfl rfl rfl rfl rfl rfl rfl ⟨rfl, rfl, rfl, rfl, rfl⟩ rfl rfl rfl rfl rfl (by kernel_rfl) Tryz.func14 txnNil_closed
    (of_decide_eq_true (by kernel_rfl)) (by unfold Func.isWrapper; first | (rw [if_pos (by decide +kernel)]; kernel_rfl) | (rw [if_neg (by decide +kernel)]; exact ⟨rfl, rfl⟩))
    (fun os started H enc _ => txnNil_lifted os started H enc)
end Go.Proofs.YtlapdmgjfdelnaaGreat
