/- The law SetTurns returns true at every input, and leaves its arguments as they were. No condition. -/
import Derived.Test.YtmphgnjodangcaaGreatUb3
namespace Go.Proofs.YtmphgnjodangcaaGreat
open Go.ChangeShapes Go.WideShapes Go.ChangeAt Go.RowKit
set_option maxRecDepth 100000

theorem setTurns_lifted (os : Os) (started : os.Started) (H : Type) (enc : TypeId × Value → H) :
    ReturnsInHanded {} Tryz.checked os 9 .any (Rows.setTurnsSpec.pre6 enc Tryz.prog Tryz.f9 Rows.setTurnsRow.domain false) (Rows.setTurnsSpec.post enc Tryz.prog Tryz.f9 false true false false) := by
  refine returnsInHanded_of_change_sized (C := Tryz.checked) own started (by kernel_rfl) Tryz.func9
    (ChangeSpec.witness6 (enc := enc) (C := Tryz.checked) false ⟨#[], #[.agg #[.slice none 0 0, .slice none 0 0], .string ByteArray.empty, .agg #[.int .i64 0, .int .i64 0]], []⟩ 8 (by kernel_rfl) (by kernel_rfl) (by kernel_rfl) (by kernel_rfl)) ?_
  intro W base args ds gs before hval0 hW _ hsz0 _
  have hsz : (DataW.weightsEach Tryz.prog (Tryz.f9.params.toList ++ Rows.setTurnsSpec.plain.varTypes Tryz.prog) (ds ++ gs)).all (· ≤ reachBytes) = true := hsz0
  clear hsz0
  have hval : ∀ (j : Nat) t v, Tryz.f9.params[j]? = some t → args[j]? = some v → Value.okWide Tryz.prog W .any base t v := hval0
  have hW' := hW
  obtain ⟨p, q, hA0, hV, rfl, _, _⟩ := hW
  have hA : DataW.TrodAll enc Tryz.prog W 0 (fun _ => true) true Tryz.f9.params.toList args.toList ds p := hA0
  rw [Tryz.params9] at hA hval hsz
  have hAll := hA
  have hlt : ∀ x ∈ p, x.block < W.heap.size := fun x hx => hW'.lt x (List.mem_append_left _ hx)
  obtain ⟨v0, v1, v2, d0, d1, d2, p0, p1, p2, rfl, rfl, rfl, h0, h1, h2⟩ := trodAll_three hA
  obtain ⟨rfl, rfl⟩ := trodVars_none hV
  clear hA0 hval0
  simp only [List.append_nil] at hW'
  obtain ⟨t0, ve0, vk0, rfl, ht0⟩ := tree_arg (hval 0 27 v0 rfl rfl) h0 (fun m hm => by
    have := List.all_eq_true.1 hsz m (DataW.weights_mem_each (j := 0) (t := 27) (d := d0) rfl rfl m hm)
    simpa using this)
  obtain ⟨s1, rfl, hs1⟩ := str_arg (hval 1 9 v1 rfl rfl) h1 (fun m hm => by
    have := List.all_eq_true.1 hsz m (DataW.weights_mem_each (j := 1) (t := 9) (d := d1) rfl rfl m hm)
    simpa using this)
  obtain ⟨x2, rfl, hx2⟩ := dot_arg (hval 2 54 v2 rfl rfl) h2
  refine (lawST_any t0 s1 x2 W ve0 vk0 ht0 hs1 hx2).mono fun e W' ⟨he, hb⟩ => ?_
  subst he
  have hargs := trodAll_below laidOut _ _ _ _ (fun t ht => by simp at ht; rcases ht with rfl | rfl | rfl <;> first | exact okTree | exact okString | exact okDot) hAll hb hlt
  exact ⟨_, rfl, _, _, _, [], _, [], hW', trodAll_mk1 (shut_bool Tryz.underlying4 _), hargs, rfl, hb.frame _, fun h => by cases h⟩

theorem setTurns_j00 : (Rows.setTurnsRow.wf (OpenSpec.ofChange Rows.setTurnsSpec)) = true := by kernel_rfl
theorem setTurns_j03 : (Tryz.f9.params.all (Tryz.pinned.checked.prog.readableRec ·)) = true := by kernel_rfl
theorem setTurns_j04 : (namedTie Tryz.pinned.checked.prog Rows.setTurnsRow.named Rows.setTurnsSpec.vars) = true := by kernel_rfl
theorem setTurns_j05 : ((Rows.setTurnsRow.stops == [])) = true := by kernel_rfl
theorem setTurns_j07 : ((Rows.setTurnsRow.knobs == [])) = true := by kernel_rfl
theorem setTurns_j09 : ((Rows.setTurnsRow.inPlace == Tryz.pinned.checked.prog.inPlace 9)) = true := by kernel_rfl
theorem setTurns_j10 : ((Rows.setTurnsRow.unfollowed == Tryz.pinned.checked.prog.unfollowed 9)) = true := by kernel_rfl
theorem setTurns_j11 : ((Rows.setTurnsRow.recurses == Tryz.pinned.checked.prog.recurses 9)) = true := by kernel_rfl
theorem setTurns_j12 : ((Rows.setTurnsRow.named == Tryz.pinned.checked.prog.varsNamed 9)) = true := by kernel_rfl
theorem setTurns_j13 : ((Rows.setTurnsRow.maps == (Tryz.f9.params.toList ++ Rows.setTurnsSpec.plain.varTypes Tryz.pinned.checked.prog).any (Tryz.pinned.checked.prog.mapsRec ·))) = true := by kernel_rfl
theorem setTurns_j14 : ((Rows.setTurnsRow.ifaces == (Tryz.f9.params.toList ++ Rows.setTurnsSpec.plain.varTypes Tryz.pinned.checked.prog).any (Tryz.pinned.checked.prog.ifacesRec ·))) = true := by kernel_rfl
theorem setTurns_j15 : ((Rows.setTurnsRow.mapsOut == Tryz.pinned.checked.prog.mapsAmong Tryz.f9.resultTypes.toList)) = true := by kernel_rfl
theorem setTurns_j16 : ((Rows.setTurnsRow.loops == (Tryz.f9.params.toList ++ Rows.setTurnsSpec.plain.varTypes Tryz.pinned.checked.prog).any (Tryz.pinned.checked.prog.loopsFrom ·))) = true := by kernel_rfl
theorem setTurns_j17 : ((Rows.setTurnsRow.wideKeys == (Tryz.f9.params.toList ++ Rows.setTurnsSpec.plain.varTypes Tryz.pinned.checked.prog ++ Tryz.f9.resultTypes.toList).any (Tryz.pinned.checked.prog.wideKeysFrom ·))) = true := by kernel_rfl
theorem setTurns_j18 : (Rows.setTurnsSpec.vars.all (Tryz.pinned.checked.prog.varReadable ·)) = true := by kernel_rfl
theorem setTurns_j19 : (Tryz.f9.resultTypes.all (fun t => Tryz.pinned.checked.prog.readableRec t && decide (t < Tryz.pinned.checked.prog.types.size))) = true := by kernel_rfl
theorem setTurns_j20 : ((Rows.setTurnsRow.ifacesOut == Tryz.f9.resultTypes.toList.any (Tryz.pinned.checked.prog.ifacesRec ·))) = true := by kernel_rfl
theorem setTurns_j21 : ((Rows.setTurnsRow.loopsOut == Tryz.f9.resultTypes.toList.any (Tryz.pinned.checked.prog.loopsFrom ·))) = true := by kernel_rfl
theorem setTurns_j22 : ((Rows.setTurnsRow.plainKeys == Tryz.pinned.checked.prog.plainKeys)) = true := by kernel_rfl
theorem setTurns_j23 : (Rows.setTurnsRow.shortTexts.isNone) = true := by kernel_rfl
theorem setTurns_j26 : ((Rows.setTurnsRow.lifted == Tryz.pinned.checked.prog.liftsFinal)) = true := by rw [headFinal]; kernel_rfl
theorem setTurns_j27 : ((Tryz.pinned.checked.prog.make == some Rows.setTurnsRow.make)) = true := by rw [headMake]; kernel_rfl
theorem setTurns_j28 : ((Rows.setTurnsRow.kinds == (if Rows.setTurnsRow.domain.isEmpty then [] else Tryz.f9.params.toList.map fun t => match Tryz.pinned.checked.prog.underlying t with | some (.int k) => some k | _ => none))) = true := by kernel_rfl
theorem setTurns_j29 : ((Rows.setTurnsRow.pinned == Rows.setTurnsRow.pinnedBy)) = true := by kernel_rfl
theorem setTurns_j30 : ((Rows.setTurnsRow.veiled == (Tryz.f9.params.toList ++ Rows.setTurnsSpec.plain.varTypes Tryz.pinned.checked.prog ++ Tryz.f9.resultTypes.toList).any (Tryz.pinned.checked.prog.veiledRec ·))) = true := by kernel_rfl
theorem setTurns_j31 : (Rows.setTurnsRow.veiledFits Tryz.pinned.checked.prog Tryz.f9.params.toList (Tryz.f9.params.toList ++ Rows.setTurnsSpec.plain.varTypes Tryz.pinned.checked.prog ++ Tryz.f9.resultTypes.toList)) = true := by kernel_rfl
theorem setTurns_closed : joinedFacts Tryz.pinned.checked.prog 9 Tryz.f9 Rows.setTurnsSpec Rows.setTurnsRow = true :=
  and2 (and2 (and2 (and2 (and2 (and2 (and2 (and2 (and2 (and2 (and2 (and2 (and2 (and2 (and2 (and2 (and2 (and2 (and2 (and2 (and2 (and2 (and2 (and2 (and2 (and2 (and2 (and2 (and2 (and2 (and2 (setTurns_j00) closedP01) closedP02) setTurns_j03) setTurns_j04) setTurns_j05) closedP06) setTurns_j07) closedP08) setTurns_j09) setTurns_j10) setTurns_j11) setTurns_j12) setTurns_j13) setTurns_j14) setTurns_j15) setTurns_j16) setTurns_j17) setTurns_j18) setTurns_j19) setTurns_j20) setTurns_j21) setTurns_j22) setTurns_j23) closedP24) closedP25) setTurns_j26) setTurns_j27) setTurns_j28) setTurns_j29) setTurns_j30) setTurns_j31

theorem setTurns_holds : Rows.SetTurnsSaid :=
  OpenClaim.holds_of_wide 9 Tryz.f9 rfl rfl rfl rfl rfl rfl rfl ⟨rfl, rfl, rfl, rfl, rfl⟩ rfl rfl rfl rfl rfl (by kernel_rfl) Tryz.func9 setTurns_closed
    (of_decide_eq_true (by kernel_rfl)) (by unfold Func.isWrapper; first | (rw [if_pos (by decide +kernel)]; kernel_rfl) | (rw [if_neg (by decide +kernel)]; exact ⟨rfl, rfl⟩))
    (fun os started H enc _ => setTurns_lifted os started H enc)
end Go.Proofs.YtmphgnjodangcaaGreat
