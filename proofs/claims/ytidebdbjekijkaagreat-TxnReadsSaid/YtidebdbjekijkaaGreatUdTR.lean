/- The law TxnReads returns true at every input, and leaves its arguments as they were. No condition. -/
import Derived.Test.YtidebdbjekijkaaGreatUdTR1
import Derived.Test.YtidebdbjekijkaaGreatUd13
import Derived.Test.YtidebdbjekijkaaGreatUd14
import Derived.Test.YtidebdbjekijkaaGreatUd10
namespace Go.Proofs.YtidebdbjekijkaaGreat
open Go.ChangeShapes Go.WideShapes Go.ChangeAt Go.RowKit
set_option maxRecDepth 100000

theorem txnReads_lifted (os : Os) (started : os.Started) (H : Type) (enc : TypeId × Value → H) :
    ReturnsInHanded {} Tryz.checked os 10 .any (Rows.txnReadsSpec.pre6 enc Tryz.prog Tryz.f10 Rows.txnReadsRow.domain false) (Rows.txnReadsSpec.post enc Tryz.prog Tryz.f10 false true false false) := by
  refine returnsInHanded_of_change_sized (C := Tryz.checked) own started (by kernel_rfl) Tryz.func10
    (ChangeSpec.witness6 (enc := enc) (C := Tryz.checked) false ⟨#[], #[.agg #[.slice none 0 0, .slice none 0 0, .slice none 0 0], .slice none 0 0, .int .i64 0, .int .i64 0, .slice none 0 0], []⟩ 8 (by kernel_rfl) (by kernel_rfl) (by kernel_rfl) (by kernel_rfl)) ?_
  intro W base args ds gs before hval0 hW _ hsz0 _
  have hsz : (DataW.weightsEach Tryz.prog (Tryz.f10.params.toList ++ Rows.txnReadsSpec.plain.varTypes Tryz.prog) (ds ++ gs)).all (· ≤ reachBytes) = true := hsz0
  clear hsz0
  have hval : ∀ (j : Nat) t v, Tryz.f10.params[j]? = some t → args[j]? = some v → Value.okWide Tryz.prog W .any base t v := hval0
  have hW' := hW
  obtain ⟨p, q, hA0, hV, rfl, _, _⟩ := hW
  have hA : DataW.TrodAll enc Tryz.prog W 0 (fun _ => true) true Tryz.f10.params.toList args.toList ds p := hA0
  rw [Tryz.params10] at hA hval hsz
  have hAll := hA
  have hlt : ∀ x ∈ p, x.block < W.heap.size := fun x hx => hW'.lt x (List.mem_append_left _ hx)
  obtain ⟨v0, v1, v2, v3, v4, d0, d1, d2, d3, d4, p0, p1, p2, p3, p4, rfl, rfl, rfl, h0, h1, h2, h3, h4⟩ := qXh hA
  obtain ⟨rfl, rfl⟩ := trodVars_none hV
  clear hA0 hval0
  simp only [List.append_nil] at hW'
  obtain ⟨t0, c0, xe0, xk0, xc0, rfl, ht0, hc0⟩ := zQy (hval 0 29 v0 rfl rfl) h0 (fun m hm => by
    have := List.all_eq_true.1 hsz m (DataW.weights_mem_each (j := 0) (t := 29) (d := d0) rfl rfl m hm)
    simpa using this)
  obtain ⟨l1, hl1⟩ := qYr (hval 1 57 v1 rfl rfl) h1 (fun m hm => by
    have := List.all_eq_true.1 hsz m (DataW.weights_mem_each (j := 1) (t := 57) (d := d1) rfl rfl m hm)
    simpa using this)
  obtain ⟨n2, rfl, hn2⟩ := qKn (hval 2 3 v2 rfl rfl) h2
  obtain ⟨n3, rfl, hn3⟩ := zQt (hval 3 2 v3 rfl rfl) h3
  obtain ⟨l4, hl4⟩ := qKm (hval 4 30 v4 rfl rfl) h4 (fun m hm => by
    have := List.all_eq_true.1 hsz m (DataW.weights_mem_each (j := 4) (t := 30) (d := d4) rfl rfl m hm)
    simpa using this)
  refine (zQ1 t0 c0 l1 n2 n3 l4 W xe0 xk0 xc0 v1 v4 ht0 hc0 (zQ0 hl1) hn2 hn3 hl4).mono fun e W' ⟨he, hb⟩ => ?_
  subst he
  have hargs := ZR qYn _ _ _ _ (fun t ht => by simp at ht; rcases ht with rfl | rfl | rfl | rfl | rfl <;> first | exact qQk | exact okOps | exact okInt | exact zQs | exact qXe) hAll hb hlt
  exact ⟨_, rfl, _, _, _, [], _, [], hW', trodAll_mk1 (shut_bool Tryz.underlying4 _), hargs, rfl, hb.frame _, fun h => by cases h⟩

theorem txnReads_j00 : (Rows.txnReadsRow.wf (OpenSpec.ofChange Rows.txnReadsSpec)) = true := by kernel_rfl
theorem txnReads_j03 : (Tryz.f10.params.all (Tryz.pinned.checked.prog.readableRec ·)) = true := by kernel_rfl
theorem txnReads_j04 : (namedTie Tryz.pinned.checked.prog Rows.txnReadsRow.named Rows.txnReadsSpec.vars) = true := by kernel_rfl
theorem txnReads_j05 : ((Rows.txnReadsRow.stops == [])) = true := by kernel_rfl
theorem txnReads_j07 : ((Rows.txnReadsRow.knobs == [])) = true := by kernel_rfl
theorem txnReads_j09 : ((Rows.txnReadsRow.inPlace == Tryz.pinned.checked.prog.inPlace 10)) = true := by kernel_rfl
theorem txnReads_j10 : ((Rows.txnReadsRow.unfollowed == Tryz.pinned.checked.prog.unfollowed 10)) = true := by kernel_rfl
theorem txnReads_j11 : ((Rows.txnReadsRow.recurses == Tryz.pinned.checked.prog.recurses 10)) = true := by kernel_rfl
theorem txnReads_j12 : ((Rows.txnReadsRow.named == Tryz.pinned.checked.prog.varsNamed 10)) = true := by kernel_rfl
theorem txnReads_j13 : ((Rows.txnReadsRow.maps == (Tryz.f10.params.toList ++ Rows.txnReadsSpec.plain.varTypes Tryz.pinned.checked.prog).any (Tryz.pinned.checked.prog.mapsRec ·))) = true := by kernel_rfl
theorem txnReads_j14 : ((Rows.txnReadsRow.ifaces == (Tryz.f10.params.toList ++ Rows.txnReadsSpec.plain.varTypes Tryz.pinned.checked.prog).any (Tryz.pinned.checked.prog.ifacesRec ·))) = true := by kernel_rfl
theorem txnReads_j15 : ((Rows.txnReadsRow.mapsOut == Tryz.pinned.checked.prog.mapsAmong Tryz.f10.resultTypes.toList)) = true := by kernel_rfl
theorem txnReads_j16 : ((Rows.txnReadsRow.loops == (Tryz.f10.params.toList ++ Rows.txnReadsSpec.plain.varTypes Tryz.pinned.checked.prog).any (Tryz.pinned.checked.prog.loopsFrom ·))) = true := by kernel_rfl
theorem txnReads_j17 : ((Rows.txnReadsRow.wideKeys == (Tryz.f10.params.toList ++ Rows.txnReadsSpec.plain.varTypes Tryz.pinned.checked.prog ++ Tryz.f10.resultTypes.toList).any (Tryz.pinned.checked.prog.wideKeysFrom ·))) = true := by kernel_rfl
theorem txnReads_j18 : (Rows.txnReadsSpec.vars.all (Tryz.pinned.checked.prog.varReadable ·)) = true := by kernel_rfl
theorem txnReads_j19 : (Tryz.f10.resultTypes.all (fun t => Tryz.pinned.checked.prog.readableRec t && decide (t < Tryz.pinned.checked.prog.types.size))) = true := by kernel_rfl
theorem txnReads_j20 : ((Rows.txnReadsRow.ifacesOut == Tryz.f10.resultTypes.toList.any (Tryz.pinned.checked.prog.ifacesRec ·))) = true := by kernel_rfl
theorem txnReads_j21 : ((Rows.txnReadsRow.loopsOut == Tryz.f10.resultTypes.toList.any (Tryz.pinned.checked.prog.loopsFrom ·))) = true := by kernel_rfl
theorem txnReads_j22 : ((Rows.txnReadsRow.plainKeys == Tryz.pinned.checked.prog.plainKeys)) = true := by kernel_rfl
theorem txnReads_j23 : (Rows.txnReadsRow.shortTexts.isNone) = true := by kernel_rfl
theorem txnReads_j26 : ((Rows.txnReadsRow.lifted == Tryz.pinned.checked.prog.liftsFinal)) = true := by rw [KX]; kernel_rfl
theorem txnReads_j27 : ((Tryz.pinned.checked.prog.make == some Rows.txnReadsRow.make)) = true := by rw [qQj]; kernel_rfl
theorem txnReads_j28 : ((Rows.txnReadsRow.kinds == (if Rows.txnReadsRow.domain.isEmpty then [] else Tryz.f10.params.toList.map fun t => match Tryz.pinned.checked.prog.underlying t with | some (.int k) => some k | _ => none))) = true := by kernel_rfl
theorem txnReads_j29 : ((Rows.txnReadsRow.pinned == Rows.txnReadsRow.pinnedBy)) = true := by kernel_rfl
theorem txnReads_j30 : ((Rows.txnReadsRow.veiled == (Tryz.f10.params.toList ++ Rows.txnReadsSpec.plain.varTypes Tryz.pinned.checked.prog ++ Tryz.f10.resultTypes.toList).any (Tryz.pinned.checked.prog.veiledRec ·))) = true := by kernel_rfl
theorem txnReads_j31 : (Rows.txnReadsRow.veiledFits Tryz.pinned.checked.prog Tryz.f10.params.toList (Tryz.f10.params.toList ++ Rows.txnReadsSpec.plain.varTypes Tryz.pinned.checked.prog ++ Tryz.f10.resultTypes.toList)) = true := by kernel_rfl
theorem txnReads_closed : joinedFacts Tryz.pinned.checked.prog 10 Tryz.f10 Rows.txnReadsSpec Rows.txnReadsRow = true :=
  and2 (and2 (and2 (and2 (and2 (and2 (and2 (and2 (and2 (and2 (and2 (and2 (and2 (and2 (and2 (and2 (and2 (and2 (and2 (and2 (and2 (and2 (and2 (and2 (and2 (and2 (and2 (and2 (and2 (and2 (and2 (txnReads_j00) KY) KZ) txnReads_j03) txnReads_j04) txnReads_j05) K4) txnReads_j07) K5) txnReads_j09) txnReads_j10) txnReads_j11) txnReads_j12) txnReads_j13) txnReads_j14) txnReads_j15) txnReads_j16) txnReads_j17) txnReads_j18) txnReads_j19) txnReads_j20) txnReads_j21) txnReads_j22) txnReads_j23) K6) K7) txnReads_j26) txnReads_j27) txnReads_j28) txnReads_j29) txnReads_j30) txnReads_j31

theorem txnReads_holds : Rows.TxnReadsSaid :=
  OpenClaim.holds_of_wide 10 Tryz.f10 rfl rfl rfl rfl rfl rfl rfl ⟨rfl, rfl, rfl, rfl, rfl⟩ rfl rfl rfl rfl rfl (by kernel_rfl) Tryz.func10 txnReads_closed
    (of_decide_eq_true (by kernel_rfl)) (by unfold Func.isWrapper; first | (rw [if_pos (by decide +kernel)]; kernel_rfl) | (rw [if_neg (by decide +kernel)]; exact ⟨rfl, rfl⟩))
    (fun os started H enc _ => txnReads_lifted os started H enc)
end Go.Proofs.YtidebdbjekijkaaGreat
