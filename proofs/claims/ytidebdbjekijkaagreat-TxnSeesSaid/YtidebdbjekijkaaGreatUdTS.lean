/- The law TxnSees returns true at every input, and leaves its arguments as they were. No condition. -/
import Derived.Test.YtidebdbjekijkaaGreatUdTS1
import Derived.Test.YtidebdbjekijkaaGreatUd13
import Derived.Test.YtidebdbjekijkaaGreatUd14
import Derived.Test.YtidebdbjekijkaaGreatUd10
namespace Go.Proofs.YtidebdbjekijkaaGreat
open Go.ChangeShapes Go.WideShapes Go.ChangeAt Go.RowKit
set_option maxRecDepth 100000

theorem txnSees_lifted (os : Os) (started : os.Started) (H : Type) (enc : TypeId × Value → H) :
    ReturnsInHanded {} Tryz.checked os 6 .any (Rows.txnSeesSpec.pre6 enc Tryz.prog Tryz.f6 Rows.txnSeesRow.domain false) (Rows.txnSeesSpec.post enc Tryz.prog Tryz.f6 false true false false) := by
  refine returnsInHanded_of_change_sized (C := Tryz.checked) own started (by kernel_rfl) Tryz.func6
    (ChangeSpec.witness6 (enc := enc) (C := Tryz.checked) false ⟨#[], #[.agg #[.slice none 0 0, .slice none 0 0, .slice none 0 0], .slice none 0 0, .agg #[.slice none 0 0, .int .i64 0, .string ByteArray.empty, .int .i64 0]], []⟩ 8 (by kernel_rfl) (by kernel_rfl) (by kernel_rfl) (by kernel_rfl)) ?_
  intro W base args ds gs before hval0 hW _ hsz0 _
  have hsz : (DataW.weightsEach Tryz.prog (Tryz.f6.params.toList ++ Rows.txnSeesSpec.plain.varTypes Tryz.prog) (ds ++ gs)).all (· ≤ reachBytes) = true := hsz0
  clear hsz0
  have hval : ∀ (j : Nat) t v, Tryz.f6.params[j]? = some t → args[j]? = some v → Value.okWide Tryz.prog W .any base t v := hval0
  have hW' := hW
  obtain ⟨p, q, hA0, hV, rfl, _, _⟩ := hW
  have hA : DataW.TrodAll enc Tryz.prog W 0 (fun _ => true) true Tryz.f6.params.toList args.toList ds p := hA0
  rw [Tryz.params6] at hA hval hsz
  have hAll := hA
  have hlt : ∀ x ∈ p, x.block < W.heap.size := fun x hx => hW'.lt x (List.mem_append_left _ hx)
  obtain ⟨v0, v1, v2, d0, d1, d2, p0, p1, p2, rfl, rfl, rfl, h0, h1, h2⟩ := trodAll_three hA
  obtain ⟨rfl, rfl⟩ := trodVars_none hV
  clear hA0 hval0
  simp only [List.append_nil] at hW'
  obtain ⟨t0, c0, xe0, xk0, xc0, rfl, ht0, hc0⟩ := zQy (hval 0 29 v0 rfl rfl) h0 (fun m hm => by
    have := List.all_eq_true.1 hsz m (DataW.weights_mem_each (j := 0) (t := 29) (d := d0) rfl rfl m hm)
    simpa using this)
  obtain ⟨l1, hl1⟩ := qYr (hval 1 57 v1 rfl rfl) h1 (fun m hm => by
    have := List.all_eq_true.1 hsz m (DataW.weights_mem_each (j := 1) (t := 57) (d := d1) rfl rfl m hm)
    simpa using this)
  obtain ⟨o2, vp2, rfl, hl2, ho2⟩ := op_arg (hval 2 59 v2 rfl rfl) h2 (fun m hm => by
    have := List.all_eq_true.1 hsz m (DataW.weights_mem_each (j := 2) (t := 59) (d := d2) rfl rfl m hm)
    simpa using this)
  refine (lawTS_any t0 c0 l1 o2 W xe0 xk0 xc0 v1 vp2 ht0 hc0 (zQ0 hl1) hl2 ho2 (ops_len h1 (fun m hm => by
    have := List.all_eq_true.1 hsz m (DataW.weights_mem_each (j := 1) (t := 57) (d := d1) rfl rfl m hm)
    simpa using this) hl1)).mono fun e W' ⟨he, hb⟩ => ?_
  subst he
  have hargs := ZR qYn _ _ _ _ (fun t ht => by simp at ht; rcases ht with rfl | rfl | rfl <;> first | exact qQk | exact okOps | exact okOp) hAll hb hlt
  exact ⟨_, rfl, _, _, _, [], _, [], hW', trodAll_mk1 (shut_bool Tryz.underlying4 _), hargs, rfl, hb.frame _, fun h => by cases h⟩

theorem txnSees_j00 : (Rows.txnSeesRow.wf (OpenSpec.ofChange Rows.txnSeesSpec)) = true := by kernel_rfl
theorem txnSees_j03 : (Tryz.f6.params.all (Tryz.pinned.checked.prog.readableRec ·)) = true := by kernel_rfl
theorem txnSees_j04 : (namedTie Tryz.pinned.checked.prog Rows.txnSeesRow.named Rows.txnSeesSpec.vars) = true := by kernel_rfl
theorem txnSees_j05 : ((Rows.txnSeesRow.stops == [])) = true := by kernel_rfl
theorem txnSees_j07 : ((Rows.txnSeesRow.knobs == [])) = true := by kernel_rfl
theorem txnSees_j09 : ((Rows.txnSeesRow.inPlace == Tryz.pinned.checked.prog.inPlace 6)) = true := by kernel_rfl
theorem txnSees_j10 : ((Rows.txnSeesRow.unfollowed == Tryz.pinned.checked.prog.unfollowed 6)) = true := by kernel_rfl
theorem txnSees_j11 : ((Rows.txnSeesRow.recurses == Tryz.pinned.checked.prog.recurses 6)) = true := by kernel_rfl
theorem txnSees_j12 : ((Rows.txnSeesRow.named == Tryz.pinned.checked.prog.varsNamed 6)) = true := by kernel_rfl
theorem txnSees_j13 : ((Rows.txnSeesRow.maps == (Tryz.f6.params.toList ++ Rows.txnSeesSpec.plain.varTypes Tryz.pinned.checked.prog).any (Tryz.pinned.checked.prog.mapsRec ·))) = true := by kernel_rfl
theorem txnSees_j14 : ((Rows.txnSeesRow.ifaces == (Tryz.f6.params.toList ++ Rows.txnSeesSpec.plain.varTypes Tryz.pinned.checked.prog).any (Tryz.pinned.checked.prog.ifacesRec ·))) = true := by kernel_rfl
theorem txnSees_j15 : ((Rows.txnSeesRow.mapsOut == Tryz.pinned.checked.prog.mapsAmong Tryz.f6.resultTypes.toList)) = true := by kernel_rfl
theorem txnSees_j16 : ((Rows.txnSeesRow.loops == (Tryz.f6.params.toList ++ Rows.txnSeesSpec.plain.varTypes Tryz.pinned.checked.prog).any (Tryz.pinned.checked.prog.loopsFrom ·))) = true := by kernel_rfl
theorem txnSees_j17 : ((Rows.txnSeesRow.wideKeys == (Tryz.f6.params.toList ++ Rows.txnSeesSpec.plain.varTypes Tryz.pinned.checked.prog ++ Tryz.f6.resultTypes.toList).any (Tryz.pinned.checked.prog.wideKeysFrom ·))) = true := by kernel_rfl
theorem txnSees_j18 : (Rows.txnSeesSpec.vars.all (Tryz.pinned.checked.prog.varReadable ·)) = true := by kernel_rfl
theorem txnSees_j19 : (Tryz.f6.resultTypes.all (fun t => Tryz.pinned.checked.prog.readableRec t && decide (t < Tryz.pinned.checked.prog.types.size))) = true := by kernel_rfl
theorem txnSees_j20 : ((Rows.txnSeesRow.ifacesOut == Tryz.f6.resultTypes.toList.any (Tryz.pinned.checked.prog.ifacesRec ·))) = true := by kernel_rfl
theorem txnSees_j21 : ((Rows.txnSeesRow.loopsOut == Tryz.f6.resultTypes.toList.any (Tryz.pinned.checked.prog.loopsFrom ·))) = true := by kernel_rfl
theorem txnSees_j22 : ((Rows.txnSeesRow.plainKeys == Tryz.pinned.checked.prog.plainKeys)) = true := by kernel_rfl
theorem txnSees_j23 : (Rows.txnSeesRow.shortTexts.isNone) = true := by kernel_rfl
theorem txnSees_j26 : ((Rows.txnSeesRow.lifted == Tryz.pinned.checked.prog.liftsFinal)) = true := by rw [KX]; kernel_rfl
theorem txnSees_j27 : ((Tryz.pinned.checked.prog.make == some Rows.txnSeesRow.make)) = true := by rw [qQj]; kernel_rfl
theorem txnSees_j28 : ((Rows.txnSeesRow.kinds == (if Rows.txnSeesRow.domain.isEmpty then [] else Tryz.f6.params.toList.map fun t => match Tryz.pinned.checked.prog.underlying t with | some (.int k) => some k | _ => none))) = true := by kernel_rfl
theorem txnSees_j29 : ((Rows.txnSeesRow.pinned == Rows.txnSeesRow.pinnedBy)) = true := by kernel_rfl
theorem txnSees_j30 : ((Rows.txnSeesRow.veiled == (Tryz.f6.params.toList ++ Rows.txnSeesSpec.plain.varTypes Tryz.pinned.checked.prog ++ Tryz.f6.resultTypes.toList).any (Tryz.pinned.checked.prog.veiledRec ·))) = true := by kernel_rfl
theorem txnSees_j31 : (Rows.txnSeesRow.veiledFits Tryz.pinned.checked.prog Tryz.f6.params.toList (Tryz.f6.params.toList ++ Rows.txnSeesSpec.plain.varTypes Tryz.pinned.checked.prog ++ Tryz.f6.resultTypes.toList)) = true := by kernel_rfl
theorem txnSees_closed : joinedFacts Tryz.pinned.checked.prog 6 Tryz.f6 Rows.txnSeesSpec Rows.txnSeesRow = true :=
  and2 (and2 (and2 (and2 (and2 (and2 (and2 (and2 (and2 (and2 (and2 (and2 (and2 (and2 (and2 (and2 (and2 (and2 (and2 (and2 (and2 (and2 (and2 (and2 (and2 (and2 (and2 (and2 (and2 (and2 (and2 (txnSees_j00) KY) KZ) txnSees_j03) txnSees_j04) txnSees_j05) K4) txnSees_j07) K5) txnSees_j09) txnSees_j10) txnSees_j11) txnSees_j12) txnSees_j13) txnSees_j14) txnSees_j15) txnSees_j16) txnSees_j17) txnSees_j18) txnSees_j19) txnSees_j20) txnSees_j21) txnSees_j22) txnSees_j23) K6) K7) txnSees_j26) txnSees_j27) txnSees_j28) txnSees_j29) txnSees_j30) txnSees_j31

theorem txnSees_holds : Rows.TxnSeesSaid :=
  OpenClaim.holds_of_wide 6 Tryz.f6 rfl rfl rfl rfl rfl rfl rfl ⟨rfl, rfl, rfl, rfl, rfl⟩ rfl rfl rfl rfl rfl (by kernel_rfl) Tryz.func6 txnSees_closed
    (of_decide_eq_true (by kernel_rfl)) (by unfold Func.isWrapper; first | (rw [if_pos (by decide +kernel)]; kernel_rfl) | (rw [if_neg (by decide +kernel)]; exact ⟨rfl, rfl⟩))
    (fun os started H enc _ => txnSees_lifted os started H enc)
end Go.Proofs.YtidebdbjekijkaaGreat
