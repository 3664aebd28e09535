/- The law TxnDelta returns true at every input, and leaves its arguments as they were. No condition. -/
import Derived.Test.YtbcoelggdikipaaGreatUq16
import Derived.Test.YtbcoelggdikipaaGreatUq17
import Derived.Test.YtbcoelggdikipaaGreatUq18
import Derived.Test.YtbcoelggdikipaaGreatUq13
namespace Go.Proofs.YtbcoelggdikipaaGreat
open Go.ChangeShapes Go.WideShapes Go.ChangeAt Go.RowKit
set_option maxRecDepth 100000

theorem txnDelta_lifted (os : Os) (started : os.Started) (H : Type) (enc : TypeId × Value → H) :
    ReturnsInHanded {} Tryz.checked os 7 .any (Rows.txnDeltaSpec.pre6 enc Tryz.prog Tryz.f7 Rows.txnDeltaRow.domain false) (Rows.txnDeltaSpec.post enc Tryz.prog Tryz.f7 false true false false) := by
  refine returnsInHanded_of_change_sized (C := Tryz.checked) own started (by kernel_rfl) Tryz.func7
    (ChangeSpec.witness6 (enc := enc) (C := Tryz.checked) false ⟨#[], #[.agg #[.slice none 0 0, .slice none 0 0, .slice none 0 0], .slice none 0 0, .int .i64 0, .int .i64 0], []⟩ 8 (by kernel_rfl) (by kernel_rfl) (by kernel_rfl) (by kernel_rfl)) ?_
  intro W base args ds gs before hval0 hW _ hsz0 _
  have hsz : (DataW.weightsEach Tryz.prog (Tryz.f7.params.toList ++ Rows.txnDeltaSpec.plain.varTypes Tryz.prog) (ds ++ gs)).all (· ≤ reachBytes) = true := hsz0
  clear hsz0
  have hval : ∀ (j : Nat) t v, Tryz.f7.params[j]? = some t → args[j]? = some v → Value.okWide Tryz.prog W .any base t v := hval0
  have hW' := hW
  obtain ⟨p, q, hA0, hV, rfl, _, _⟩ := hW
  have hA : DataW.TrodAll enc Tryz.prog W 0 (fun _ => true) true Tryz.f7.params.toList args.toList ds p := hA0
  rw [Tryz.params7] at hA hval hsz
  have hAll := hA
  have hlt : ∀ x ∈ p, x.block < W.heap.size := fun x hx => hW'.lt x (List.mem_append_left _ hx)
  obtain ⟨v0, v1, v2, v3, d0, d1, d2, d3, p0, p1, p2, p3, rfl, rfl, rfl, h0, h1, h2, h3⟩ := qZk hA
  obtain ⟨rfl, rfl⟩ := trodVars_none hV
  clear hA0 hval0
  simp only [List.append_nil] at hW'
  obtain ⟨t0, c0, xe0, xk0, xc0, rfl, ht0, hc0⟩ := zJh (hval 0 29 v0 rfl rfl) h0 (fun m hm => by
    have := List.all_eq_true.1 hsz m (DataW.weights_mem_each (j := 0) (t := 29) (d := d0) rfl rfl m hm)
    simpa using this)
  obtain ⟨l1, hl1⟩ := zYy (hval 1 47 v1 rfl rfl) h1 (fun m hm => by
    have := List.all_eq_true.1 hsz m (DataW.weights_mem_each (j := 1) (t := 47) (d := d1) rfl rfl m hm)
    simpa using this)
  obtain ⟨n2, rfl, hn2⟩ := zZx (hval 2 3 v2 rfl rfl) h2
  obtain ⟨n3, rfl, hn3⟩ := zYt (hval 3 2 v3 rfl rfl) h3
  refine (qUw t0 c0 l1 n2 n3 W xe0 xk0 xc0 v1 ht0 hc0 (zJi hl1) hn2 hn3).mono fun e W' ⟨he, hb⟩ => ?_
  subst he
  have hargs := X0 zYr _ _ _ _ (fun t ht => by simp at ht; rcases ht with rfl | rfl | rfl | rfl <;> first | exact zZv | exact okOps | exact okInt | exact zYs) hAll hb hlt
  exact ⟨_, rfl, _, _, _, [], _, [], hW', trodAll_mk1 (shut_bool Tryz.underlying4 _), hargs, rfl, hb.frame _, fun h => by cases h⟩

theorem txnDelta_j00 : (Rows.txnDeltaRow.wf (OpenSpec.ofChange Rows.txnDeltaSpec)) = true := by kernel_rfl
theorem txnDelta_j03 : (Tryz.f7.params.all (Tryz.pinned.checked.prog.readableRec ·)) = true := by kernel_rfl
theorem txnDelta_j04 : (namedTie Tryz.pinned.checked.prog Rows.txnDeltaRow.named Rows.txnDeltaSpec.vars) = true := by kernel_rfl
theorem txnDelta_j05 : ((Rows.txnDeltaRow.stops == [])) = true := by kernel_rfl
theorem txnDelta_j07 : ((Rows.txnDeltaRow.knobs == [])) = true := by kernel_rfl
theorem txnDelta_j09 : ((Rows.txnDeltaRow.inPlace == Tryz.pinned.checked.prog.inPlace 7)) = true := by kernel_rfl
theorem txnDelta_j10 : ((Rows.txnDeltaRow.unfollowed == Tryz.pinned.checked.prog.unfollowed 7)) = true := by kernel_rfl
theorem txnDelta_j11 : ((Rows.txnDeltaRow.recurses == Tryz.pinned.checked.prog.recurses 7)) = true := by kernel_rfl
theorem txnDelta_j12 : ((Rows.txnDeltaRow.named == Tryz.pinned.checked.prog.varsNamed 7)) = true := by kernel_rfl
theorem txnDelta_j13 : ((Rows.txnDeltaRow.maps == (Tryz.f7.params.toList ++ Rows.txnDeltaSpec.plain.varTypes Tryz.pinned.checked.prog).any (Tryz.pinned.checked.prog.mapsRec ·))) = true := by kernel_rfl
theorem txnDelta_j14 : ((Rows.txnDeltaRow.ifaces == (Tryz.f7.params.toList ++ Rows.txnDeltaSpec.plain.varTypes Tryz.pinned.checked.prog).any (Tryz.pinned.checked.prog.ifacesRec ·))) = true := by kernel_rfl
theorem txnDelta_j15 : ((Rows.txnDeltaRow.mapsOut == Tryz.pinned.checked.prog.mapsAmong Tryz.f7.resultTypes.toList)) = true := by kernel_rfl
theorem txnDelta_j16 : ((Rows.txnDeltaRow.loops == (Tryz.f7.params.toList ++ Rows.txnDeltaSpec.plain.varTypes Tryz.pinned.checked.prog).any (Tryz.pinned.checked.prog.loopsFrom ·))) = true := by kernel_rfl
theorem txnDelta_j17 : ((Rows.txnDeltaRow.wideKeys == (Tryz.f7.params.toList ++ Rows.txnDeltaSpec.plain.varTypes Tryz.pinned.checked.prog ++ Tryz.f7.resultTypes.toList).any (Tryz.pinned.checked.prog.wideKeysFrom ·))) = true := by kernel_rfl
theorem txnDelta_j18 : (Rows.txnDeltaSpec.vars.all (Tryz.pinned.checked.prog.varReadable ·)) = true := by kernel_rfl
theorem txnDelta_j19 : (Tryz.f7.resultTypes.all (fun t => Tryz.pinned.checked.prog.readableRec t && decide (t < Tryz.pinned.checked.prog.types.size))) = true := by kernel_rfl
theorem txnDelta_j20 : ((Rows.txnDeltaRow.ifacesOut == Tryz.f7.resultTypes.toList.any (Tryz.pinned.checked.prog.ifacesRec ·))) = true := by kernel_rfl
theorem txnDelta_j21 : ((Rows.txnDeltaRow.loopsOut == Tryz.f7.resultTypes.toList.any (Tryz.pinned.checked.prog.loopsFrom ·))) = true := by kernel_rfl
theorem txnDelta_j22 : ((Rows.txnDeltaRow.plainKeys == Tryz.pinned.checked.prog.plainKeys)) = true := by kernel_rfl
theorem txnDelta_j23 : (Rows.txnDeltaRow.shortTexts.isNone) = true := by kernel_rfl
theorem txnDelta_j26 : ((Rows.txnDeltaRow.lifted == Tryz.pinned.checked.prog.liftsFinal)) = true := by rw [qUz]; kernel_rfl
theorem txnDelta_j27 : ((Tryz.pinned.checked.prog.make == some Rows.txnDeltaRow.make)) = true := by rw [zZs]; kernel_rfl
theorem txnDelta_j28 : ((Rows.txnDeltaRow.kinds == (if Rows.txnDeltaRow.domain.isEmpty then [] else Tryz.f7.params.toList.map fun t => match Tryz.pinned.checked.prog.underlying t with | some (.int k) => some k | _ => none))) = true := by kernel_rfl
theorem txnDelta_j29 : ((Rows.txnDeltaRow.pinned == Rows.txnDeltaRow.pinnedBy)) = true := by kernel_rfl
theorem txnDelta_j30 : ((Rows.txnDeltaRow.veiled == (Tryz.f7.params.toList ++ Rows.txnDeltaSpec.plain.varTypes Tryz.pinned.checked.prog ++ Tryz.f7.resultTypes.toList).any (Tryz.pinned.checked.prog.veiledRec ·))) = true := by kernel_rfl
theorem txnDelta_j31 : (Rows.txnDeltaRow.veiledFits Tryz.pinned.checked.prog Tryz.f7.params.toList (Tryz.f7.params.toList ++ Rows.txnDeltaSpec.plain.varTypes Tryz.pinned.checked.prog ++ Tryz.f7.resultTypes.toList)) = true := by kernel_rfl
theorem txnDelta_closed : joinedFacts Tryz.pinned.checked.prog 7 Tryz.f7 Rows.txnDeltaSpec Rows.txnDeltaRow = true :=
  and2 (and2 (and2 (and2 (and2 (and2 (and2 (and2 (and2 (and2 (and2 (and2 (and2 (and2 (and2 (and2 (and2 (and2 (and2 (and2 (and2 (and2 (and2 (and2 (and2 (and2 (and2 (and2 (and2 (and2 (and2 (txnDelta_j00) qU0) qU1) txnDelta_j03) txnDelta_j04) txnDelta_j05) qU2) txnDelta_j07) qU3) txnDelta_j09) txnDelta_j10) txnDelta_j11) txnDelta_j12) txnDelta_j13) txnDelta_j14) txnDelta_j15) txnDelta_j16) txnDelta_j17) txnDelta_j18) txnDelta_j19) txnDelta_j20) txnDelta_j21) txnDelta_j22) txnDelta_j23) qU4) qU6) txnDelta_j26) txnDelta_j27) txnDelta_j28) txnDelta_j29) txnDelta_j30) txnDelta_j31

theorem txnDelta_holds : Rows.TxnDeltaSaid :=
  OpenClaim.holds_of_wide 7 Tryz.f7 rfl rfl rfl rfl rfl rfl rfl ⟨rfl, rfl, rfl, rfl, rfl⟩ rfl rfl rfl rfl rfl (by kernel_rfl) Tryz.func7 txnDelta_closed
    (of_decide_eq_true (by kernel_rfl)) (by unfold Func.isWrapper; first | (rw [if_pos (by decide +kernel)]; kernel_rfl) | (rw [if_neg (by decide +kernel)]; exact ⟨rfl, rfl⟩))
    (fun os started H enc _ => txnDelta_lifted os started H enc)
end Go.Proofs.YtbcoelggdikipaaGreat
