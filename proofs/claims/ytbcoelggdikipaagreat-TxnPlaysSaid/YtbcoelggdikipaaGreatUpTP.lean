/- The law TxnPlays returns true at every input, and leaves its arguments as they were. No condition. -/
import Derived.Test.YtbcoelggdikipaaGreatUp17
import Derived.Test.YtbcoelggdikipaaGreatUp18
import Derived.Test.YtbcoelggdikipaaGreatUp19
import Derived.Test.YtbcoelggdikipaaGreatUp14
namespace Go.Proofs.YtbcoelggdikipaaGreat
open Go.ChangeShapes Go.WideShapes Go.ChangeAt Go.RowKit
set_option maxRecDepth 100000

theorem txnPlays_lifted (os : Os) (started : os.Started) (H : Type) (enc : TypeId × Value → H) :
    ReturnsInHanded {} Tryz.checked os 5 .any (Rows.txnPlaysSpec.pre6 enc Tryz.prog Tryz.f5 Rows.txnPlaysRow.domain false) (Rows.txnPlaysSpec.post enc Tryz.prog Tryz.f5 false true false false) := by
  refine returnsInHanded_of_change_sized (C := Tryz.checked) own started (by kernel_rfl) Tryz.func5
    (ChangeSpec.witness6 (enc := enc) (C := Tryz.checked) false ⟨#[], #[.agg #[.slice none 0 0, .slice none 0 0, .slice none 0 0], .slice none 0 0, .slice none 0 0], []⟩ 8 (by kernel_rfl) (by kernel_rfl) (by kernel_rfl) (by kernel_rfl)) ?_
  intro W base args ds gs before hval0 hW _ hsz0 _
  have hsz : (DataW.weightsEach Tryz.prog (Tryz.f5.params.toList ++ Rows.txnPlaysSpec.plain.varTypes Tryz.prog) (ds ++ gs)).all (· ≤ reachBytes) = true := hsz0
  clear hsz0
  have hval : ∀ (j : Nat) t v, Tryz.f5.params[j]? = some t → args[j]? = some v → Value.okWide Tryz.prog W .any base t v := hval0
  have hW' := hW
  obtain ⟨p, q, hA0, hV, rfl, _, _⟩ := hW
  have hA : DataW.TrodAll enc Tryz.prog W 0 (fun _ => true) true Tryz.f5.params.toList args.toList ds p := hA0
  rw [Tryz.params5] at hA hval hsz
  have hAll := hA
  have hlt : ∀ x ∈ p, x.block < W.heap.size := fun x hx => hW'.lt x (List.mem_append_left _ hx)
  obtain ⟨v0, v1, v2, d0, d1, d2, p0, p1, p2, rfl, rfl, rfl, h0, h1, h2⟩ := trodAll_three hA
  obtain ⟨rfl, rfl⟩ := trodVars_none hV
  clear hA0 hval0
  simp only [List.append_nil] at hW'
  obtain ⟨t0, c0, xe0, xk0, xc0, rfl, ht0, hc0⟩ := zYt (hval 0 29 v0 rfl rfl) h0 (fun m hm => by
    have := List.all_eq_true.1 hsz m (DataW.weights_mem_each (j := 0) (t := 29) (d := d0) rfl rfl m hm)
    simpa using this)
  obtain ⟨l1, hl1⟩ := zYc (hval 1 47 v1 rfl rfl) h1 (fun m hm => by
    have := List.all_eq_true.1 hsz m (DataW.weights_mem_each (j := 1) (t := 47) (d := d1) rfl rfl m hm)
    simpa using this)
  obtain ⟨l2, hl2⟩ := zZg (hval 2 30 v2 rfl rfl) h2 (fun m hm => by
    have := List.all_eq_true.1 hsz m (DataW.weights_mem_each (j := 2) (t := 30) (d := d2) rfl rfl m hm)
    simpa using this)
  refine (qUj t0 c0 l1 l2 W xe0 xk0 xc0 v1 v2 ht0 hc0 (zYu hl1) hl2).mono fun e W' ⟨he, hb⟩ => ?_
  subst he
  have hargs := XR zX7 _ _ _ _ (fun t ht => by simp at ht; rcases ht with rfl | rfl | rfl <;> first | exact zZe | exact okOps | exact qUw) hAll hb hlt
  exact ⟨_, rfl, _, _, _, [], _, [], hW', trodAll_mk1 (shut_bool Tryz.underlying4 _), hargs, rfl, hb.frame _, fun h => by cases h⟩

theorem txnPlays_j00 : (Rows.txnPlaysRow.wf (OpenSpec.ofChange Rows.txnPlaysSpec)) = true := by kernel_rfl
theorem txnPlays_j03 : (Tryz.f5.params.all (Tryz.pinned.checked.prog.readableRec ·)) = true := by kernel_rfl
theorem txnPlays_j04 : (namedTie Tryz.pinned.checked.prog Rows.txnPlaysRow.named Rows.txnPlaysSpec.vars) = true := by kernel_rfl
theorem txnPlays_j05 : ((Rows.txnPlaysRow.stops == [])) = true := by kernel_rfl
theorem txnPlays_j07 : ((Rows.txnPlaysRow.knobs == [])) = true := by kernel_rfl
theorem txnPlays_j09 : ((Rows.txnPlaysRow.inPlace == Tryz.pinned.checked.prog.inPlace 5)) = true := by kernel_rfl
theorem txnPlays_j10 : ((Rows.txnPlaysRow.unfollowed == Tryz.pinned.checked.prog.unfollowed 5)) = true := by kernel_rfl
theorem txnPlays_j11 : ((Rows.txnPlaysRow.recurses == Tryz.pinned.checked.prog.recurses 5)) = true := by kernel_rfl
theorem txnPlays_j12 : ((Rows.txnPlaysRow.named == Tryz.pinned.checked.prog.varsNamed 5)) = true := by kernel_rfl
theorem txnPlays_j13 : ((Rows.txnPlaysRow.maps == (Tryz.f5.params.toList ++ Rows.txnPlaysSpec.plain.varTypes Tryz.pinned.checked.prog).any (Tryz.pinned.checked.prog.mapsRec ·))) = true := by kernel_rfl
theorem txnPlays_j14 : ((Rows.txnPlaysRow.ifaces == (Tryz.f5.params.toList ++ Rows.txnPlaysSpec.plain.varTypes Tryz.pinned.checked.prog).any (Tryz.pinned.checked.prog.ifacesRec ·))) = true := by kernel_rfl
theorem txnPlays_j15 : ((Rows.txnPlaysRow.mapsOut == Tryz.pinned.checked.prog.mapsAmong Tryz.f5.resultTypes.toList)) = true := by kernel_rfl
theorem txnPlays_j16 : ((Rows.txnPlaysRow.loops == (Tryz.f5.params.toList ++ Rows.txnPlaysSpec.plain.varTypes Tryz.pinned.checked.prog).any (Tryz.pinned.checked.prog.loopsFrom ·))) = true := by kernel_rfl
theorem txnPlays_j17 : ((Rows.txnPlaysRow.wideKeys == (Tryz.f5.params.toList ++ Rows.txnPlaysSpec.plain.varTypes Tryz.pinned.checked.prog ++ Tryz.f5.resultTypes.toList).any (Tryz.pinned.checked.prog.wideKeysFrom ·))) = true := by kernel_rfl
theorem txnPlays_j18 : (Rows.txnPlaysSpec.vars.all (Tryz.pinned.checked.prog.varReadable ·)) = true := by kernel_rfl
theorem txnPlays_j19 : (Tryz.f5.resultTypes.all (fun t => Tryz.pinned.checked.prog.readableRec t && decide (t < Tryz.pinned.checked.prog.types.size))) = true := by kernel_rfl
theorem txnPlays_j20 : ((Rows.txnPlaysRow.ifacesOut == Tryz.f5.resultTypes.toList.any (Tryz.pinned.checked.prog.ifacesRec ·))) = true := by kernel_rfl
theorem txnPlays_j21 : ((Rows.txnPlaysRow.loopsOut == Tryz.f5.resultTypes.toList.any (Tryz.pinned.checked.prog.loopsFrom ·))) = true := by kernel_rfl
theorem txnPlays_j22 : ((Rows.txnPlaysRow.plainKeys == Tryz.pinned.checked.prog.plainKeys)) = true := by kernel_rfl
theorem txnPlays_j23 : (Rows.txnPlaysRow.shortTexts.isNone) = true := by kernel_rfl
theorem txnPlays_j26 : ((Rows.txnPlaysRow.lifted == Tryz.pinned.checked.prog.liftsFinal)) = true := by rw [qUm]; kernel_rfl
theorem txnPlays_j27 : ((Tryz.pinned.checked.prog.make == some Rows.txnPlaysRow.make)) = true := by rw [zZb]; kernel_rfl
theorem txnPlays_j28 : ((Rows.txnPlaysRow.kinds == (if Rows.txnPlaysRow.domain.isEmpty then [] else Tryz.f5.params.toList.map fun t => match Tryz.pinned.checked.prog.underlying t with | some (.int k) => some k | _ => none))) = true := by kernel_rfl
theorem txnPlays_j29 : ((Rows.txnPlaysRow.pinned == Rows.txnPlaysRow.pinnedBy)) = true := by kernel_rfl
theorem txnPlays_j30 : ((Rows.txnPlaysRow.veiled == (Tryz.f5.params.toList ++ Rows.txnPlaysSpec.plain.varTypes Tryz.pinned.checked.prog ++ Tryz.f5.resultTypes.toList).any (Tryz.pinned.checked.prog.veiledRec ·))) = true := by kernel_rfl
theorem txnPlays_j31 : (Rows.txnPlaysRow.veiledFits Tryz.pinned.checked.prog Tryz.f5.params.toList (Tryz.f5.params.toList ++ Rows.txnPlaysSpec.plain.varTypes Tryz.pinned.checked.prog ++ Tryz.f5.resultTypes.toList)) = true := by kernel_rfl
theorem txnPlays_closed : joinedFacts Tryz.pinned.checked.prog 5 Tryz.f5 Rows.txnPlaysSpec Rows.txnPlaysRow = true :=
  and2 (and2 (and2 (and2 (and2 (and2 (and2 (and2 (and2 (and2 (and2 (and2 (and2 (and2 (and2 (and2 (and2 (and2 (and2 (and2 (and2 (and2 (and2 (and2 (and2 (and2 (and2 (and2 (and2 (and2 (and2 (txnPlays_j00) qUn) qUo) txnPlays_j03) txnPlays_j04) txnPlays_j05) qUp) txnPlays_j07) qUq) txnPlays_j09) txnPlays_j10) txnPlays_j11) txnPlays_j12) txnPlays_j13) txnPlays_j14) txnPlays_j15) txnPlays_j16) txnPlays_j17) txnPlays_j18) txnPlays_j19) txnPlays_j20) txnPlays_j21) txnPlays_j22) txnPlays_j23) qUr) qUt) txnPlays_j26) txnPlays_j27) txnPlays_j28) txnPlays_j29) txnPlays_j30) txnPlays_j31

theorem txnPlays_holds : Rows.TxnPlaysSaid :=
  OpenClaim.holds_of_wide 5 Tryz.f5 rfl rfl rfl rfl rfl rfl rfl ⟨rfl, rfl, rfl, rfl, rfl⟩ rfl rfl rfl rfl rfl (by kernel_rfl) Tryz.func5 txnPlays_closed
    (of_decide_eq_true (by kernel_rfl)) (by unfold Func.isWrapper; first | (rw [if_pos (by decide +kernel)]; kernel_rfl) | (rw [if_neg (by decide +kernel)]; exact ⟨rfl, rfl⟩))
    (fun os started H enc _ => txnPlays_lifted os started H enc)
end Go.Proofs.YtbcoelggdikipaaGreat
