/- The law TxnOwn returns true at every input, and leaves its arguments as they were. No condition. -/
import Derived.Test.YtbcoelggdikipaaGreatUw16
import Derived.Test.YtbcoelggdikipaaGreatUw18
import Derived.Test.YtbcoelggdikipaaGreatUw19
import Derived.Test.YtbcoelggdikipaaGreatUw14
namespace Go.Proofs.YtbcoelggdikipaaGreat
open Go.ChangeShapes Go.WideShapes Go.ChangeAt Go.RowKit
set_option maxRecDepth 100000

theorem txnOwn_lifted (os : Os) (started : os.Started) (H : Type) (enc : TypeId × Value → H) :
    ReturnsInHanded {} Tryz.checked os 6 .any (Rows.txnOwnSpec.pre6 enc Tryz.prog Tryz.f6 Rows.txnOwnRow.domain false) (Rows.txnOwnSpec.post enc Tryz.prog Tryz.f6 false true false false) := by
  refine returnsInHanded_of_change_sized (C := Tryz.checked) own started (by kernel_rfl) Tryz.func6
    (ChangeSpec.witness6 (enc := enc) (C := Tryz.checked) false ⟨#[], #[.agg #[.slice none 0 0, .slice none 0 0, .slice none 0 0], .slice none 0 0], []⟩ 8 (by kernel_rfl) (by kernel_rfl) (by kernel_rfl) (by kernel_rfl)) ?_
  intro W base args ds gs before hval0 hW _ hsz0 _
  have hsz : (DataW.weightsEach Tryz.prog (Tryz.f6.params.toList ++ Rows.txnOwnSpec.plain.varTypes Tryz.prog) (ds ++ gs)).all (· ≤ reachBytes) = true := hsz0
  clear hsz0
  have hval : ∀ (j : Nat) t v, Tryz.f6.params[j]? = some t → args[j]? = some v → Value.okWide Tryz.prog W .any base t v := hval0
  have hW' := hW
  obtain ⟨p, q, hA0, hV, rfl, _, _⟩ := hW
  have hA : DataW.TrodAll enc Tryz.prog W 0 (fun _ => true) true Tryz.f6.params.toList args.toList ds p := hA0
  rw [Tryz.params6] at hA hval hsz
  have hAll := hA
  have hlt : ∀ x ∈ p, x.block < W.heap.size := fun x hx => hW'.lt x (List.mem_append_left _ hx)
  obtain ⟨v0, v1, d0, d1, p0, p1, rfl, rfl, rfl, h0, h1⟩ := trodAll_two hA
  obtain ⟨rfl, rfl⟩ := trodVars_none hV
  clear hA0 hval0
  simp only [List.append_nil] at hW'
  obtain ⟨t0, c0, xe0, xk0, xc0, rfl, ht0, hc0⟩ := zY3 (hval 0 29 v0 rfl rfl) h0 (fun m hm => by
    have := List.all_eq_true.1 hsz m (DataW.weights_mem_each (j := 0) (t := 29) (d := d0) rfl rfl m hm)
    simpa using this)
  obtain ⟨l1, hl1⟩ := zYl (hval 1 47 v1 rfl rfl) h1 (fun m hm => by
    have := List.all_eq_true.1 hsz m (DataW.weights_mem_each (j := 1) (t := 47) (d := d1) rfl rfl m hm)
    simpa using this)
  refine (qUs t0 c0 l1 W xe0 xk0 xc0 v1 ht0 hc0 (zY4 hl1)).mono fun e W' ⟨he, hb⟩ => ?_
  subst he
  have hargs := XW zYg _ _ _ _ (fun t ht => by simp at ht; rcases ht with rfl | rfl <;> first | exact zZo | exact okOps) hAll hb hlt
  exact ⟨_, rfl, _, _, _, [], _, [], hW', trodAll_mk1 (shut_bool Tryz.underlying4 _), hargs, rfl, hb.frame _, fun h => by cases h⟩

theorem txnOwn_j00 : (Rows.txnOwnRow.wf (OpenSpec.ofChange Rows.txnOwnSpec)) = true := by kernel_rfl
theorem txnOwn_j03 : (Tryz.f6.params.all (Tryz.pinned.checked.prog.readableRec ·)) = true := by kernel_rfl
theorem txnOwn_j04 : (namedTie Tryz.pinned.checked.prog Rows.txnOwnRow.named Rows.txnOwnSpec.vars) = true := by kernel_rfl
theorem txnOwn_j05 : ((Rows.txnOwnRow.stops == [])) = true := by kernel_rfl
theorem txnOwn_j07 : ((Rows.txnOwnRow.knobs == [])) = true := by kernel_rfl
theorem txnOwn_j09 : ((Rows.txnOwnRow.inPlace == Tryz.pinned.checked.prog.inPlace 6)) = true := by kernel_rfl
theorem txnOwn_j10 : ((Rows.txnOwnRow.unfollowed == Tryz.pinned.checked.prog.unfollowed 6)) = true := by kernel_rfl
theorem txnOwn_j11 : ((Rows.txnOwnRow.recurses == Tryz.pinned.checked.prog.recurses 6)) = true := by kernel_rfl
theorem txnOwn_j12 : ((Rows.txnOwnRow.named == Tryz.pinned.checked.prog.varsNamed 6)) = true := by kernel_rfl
theorem txnOwn_j13 : ((Rows.txnOwnRow.maps == (Tryz.f6.params.toList ++ Rows.txnOwnSpec.plain.varTypes Tryz.pinned.checked.prog).any (Tryz.pinned.checked.prog.mapsRec ·))) = true := by kernel_rfl
theorem txnOwn_j14 : ((Rows.txnOwnRow.ifaces == (Tryz.f6.params.toList ++ Rows.txnOwnSpec.plain.varTypes Tryz.pinned.checked.prog).any (Tryz.pinned.checked.prog.ifacesRec ·))) = true := by kernel_rfl
theorem txnOwn_j15 : ((Rows.txnOwnRow.mapsOut == Tryz.pinned.checked.prog.mapsAmong Tryz.f6.resultTypes.toList)) = true := by kernel_rfl
theorem txnOwn_j16 : ((Rows.txnOwnRow.loops == (Tryz.f6.params.toList ++ Rows.txnOwnSpec.plain.varTypes Tryz.pinned.checked.prog).any (Tryz.pinned.checked.prog.loopsFrom ·))) = true := by kernel_rfl
theorem txnOwn_j17 : ((Rows.txnOwnRow.wideKeys == (Tryz.f6.params.toList ++ Rows.txnOwnSpec.plain.varTypes Tryz.pinned.checked.prog ++ Tryz.f6.resultTypes.toList).any (Tryz.pinned.checked.prog.wideKeysFrom ·))) = true := by kernel_rfl
theorem txnOwn_j18 : (Rows.txnOwnSpec.vars.all (Tryz.pinned.checked.prog.varReadable ·)) = true := by kernel_rfl
theorem txnOwn_j19 : (Tryz.f6.resultTypes.all (fun t => Tryz.pinned.checked.prog.readableRec t && decide (t < Tryz.pinned.checked.prog.types.size))) = true := by kernel_rfl
theorem txnOwn_j20 : ((Rows.txnOwnRow.ifacesOut == Tryz.f6.resultTypes.toList.any (Tryz.pinned.checked.prog.ifacesRec ·))) = true := by kernel_rfl
theorem txnOwn_j21 : ((Rows.txnOwnRow.loopsOut == Tryz.f6.resultTypes.toList.any (Tryz.pinned.checked.prog.loopsFrom ·))) = true := by kernel_rfl
theorem txnOwn_j22 : ((Rows.txnOwnRow.plainKeys == Tryz.pinned.checked.prog.plainKeys)) = true := by kernel_rfl
theorem txnOwn_j23 : (Rows.txnOwnRow.shortTexts.isNone) = true := by kernel_rfl
theorem txnOwn_j26 : ((Rows.txnOwnRow.lifted == Tryz.pinned.checked.prog.liftsFinal)) = true := by rw [qUv]; kernel_rfl
theorem txnOwn_j27 : ((Tryz.pinned.checked.prog.make == some Rows.txnOwnRow.make)) = true := by rw [zZl]; kernel_rfl
theorem txnOwn_j28 : ((Rows.txnOwnRow.kinds == (if Rows.txnOwnRow.domain.isEmpty then [] else Tryz.f6.params.toList.map fun t => match Tryz.pinned.checked.prog.underlying t with | some (.int k) => some k | _ => none))) = true := by kernel_rfl
theorem txnOwn_j29 : ((Rows.txnOwnRow.pinned == Rows.txnOwnRow.pinnedBy)) = true := by kernel_rfl
theorem txnOwn_j30 : ((Rows.txnOwnRow.veiled == (Tryz.f6.params.toList ++ Rows.txnOwnSpec.plain.varTypes Tryz.pinned.checked.prog ++ Tryz.f6.resultTypes.toList).any (Tryz.pinned.checked.prog.veiledRec ·))) = true := by kernel_rfl
theorem txnOwn_j31 : (Rows.txnOwnRow.veiledFits Tryz.pinned.checked.prog Tryz.f6.params.toList (Tryz.f6.params.toList ++ Rows.txnOwnSpec.plain.varTypes Tryz.pinned.checked.prog ++ Tryz.f6.resultTypes.toList)) = true := by kernel_rfl
theorem txnOwn_closed : joinedFacts Tryz.pinned.checked.prog 6 Tryz.f6 Rows.txnOwnSpec Rows.txnOwnRow = true :=
  and2 (and2 (and2 (and2 (and2 (and2 (and2 (and2 (and2 (and2 (and2 (and2 (and2 (and2 (and2 (and2 (and2 (and2 (and2 (and2 (and2 (and2 (and2 (and2 (and2 (and2 (and2 (and2 (and2 (and2 (and2 (txnOwn_j00) qUw) qUx) txnOwn_j03) txnOwn_j04) txnOwn_j05) qUy) txnOwn_j07) qUz) txnOwn_j09) txnOwn_j10) txnOwn_j11) txnOwn_j12) txnOwn_j13) txnOwn_j14) txnOwn_j15) txnOwn_j16) txnOwn_j17) txnOwn_j18) txnOwn_j19) txnOwn_j20) txnOwn_j21) txnOwn_j22) txnOwn_j23) qU0) qU2) txnOwn_j26) txnOwn_j27) txnOwn_j28) txnOwn_j29) txnOwn_j30) txnOwn_j31

theorem txnOwn_holds : Rows.TxnOwnSaid :=
  OpenClaim.holds_of_wide 6 Tryz.f6 rfl rfl rfl rfl rfl rfl rfl ⟨rfl, rfl, rfl, rfl, rfl⟩ rfl rfl rfl rfl rfl (by kernel_rfl) Tryz.func6 txnOwn_closed
    (of_decide_eq_true (by kernel_rfl)) (by unfold Func.isWrapper; first | (rw [if_pos (by decide +kernel)]; kernel_rfl) | (rw [if_neg (by decide +kernel)]; exact ⟨rfl, rfl⟩))
    (fun os started H enc _ => txnOwn_lifted os started H enc)
end Go.Proofs.YtbcoelggdikipaaGreat
