/- What the laws need, part 2: tributaryref08.right, Right. No condition. tree.deep: how many levels a tree has. Condition: not more than a thousand. A small tree has few entries and kids. No condition. tributaryref10.Sum. No condition. counter.Value. No condition. tributaryref10.Keys. No condition but that there are not too many. '!=' at spans and entries; tributaryref07.Same, tributaryref10.Alike. No condition. tributaryref08.Under. No condition but that there are not too many. tributaryref08.Same. No condition. tributaryref09.Same. No condition. The plain twin of tributaryref08.Build. No condition. tributaryref10.Kid. No condition. tributaryref08.Build. No condition but that there are not too many. Four growing rows of a call's own, held by an array of the call's own. No condition. context.apart. No condition but that there are not too many. cmp.Compare at texts; causal.greater. No condition. ormap.Keys. No condition but that there are not too many. tributaryref06.By, Of. No condition but that there are not too many, and that numbers are right. tributaryref06.Of. No condition but that there are not too many, and that numbers are right. tributaryref07.By, Union, Of. No condition but that there are not too many, and that numbers are right. tributaryref08.Leaves, Dots. No condition but that there are not too many, and that numbers are right. tributaryref08.Get. No condition but that there are not too many. -/
import Derived.Deep.LoopGhost
import Derived.Deep.RegionLaw
import Derived.Laws.StructEq
import Derived.Sort.Walk0
import Derived.Test.YtmphgnjodangcaaGreatWb1
namespace Go.Proofs.YtmphgnjodangcaaGreat
open Go.RowKit
set_option maxRecDepth 100000

set_option maxHeartbeats 4000000 in
theorem r08right_any (t : Tr) : ∀ (deep : Int) (w : World) (ve vk : Value), t.rd w w.heap.size ve vk → 0 ≤ deep → deep ≤ 1000 →
    Calls Tryz.prog 122 #[.agg #[ve, vk], .int .i64 deep] w fun e w' => e = .returned (.bool (t.right deep)) ∧ Below w.heap.size w w' := by
  induction t using Tr.ind with
  | h es ks ih =>
  intro deep w ve vk h h0 h1
  rw [rd_iff] at h
  obtain ⟨⟨A0, n0, rfl, d1, d2, d3⟩, ⟨A, m, rfl, c1, c2, c3⟩⟩ := h
  unfold Big at c2 d2
  by_cases hd : deep = 0
  · subst hd
    go_enter Tryz.func122, Tryz.ntmps122
    go_wp2_with fail
    go_ret
    exact ⟨ret_bool (by rw [Tr.right]; simp), by go_grown⟩
  have hd' : (deep == 0) = false := by simpa using hd
  have hwd : IntKind.i64.wrap (deep - 1) = deep - 1 := IntWalk.i64_in _ (by omega)
  have hd1 : 1 ≤ deep := by omega
  clear hd
  go_enter Tryz.func122, Tryz.ntmps122
  go_wp2_with fail
  go_loopw [13] (fun i wr => ∃ k : Nat, k ≤ es.length ∧ i = .int .i64 k ∧ Hid (entsB (prevD es k) (es.drop k) = entsB none es) ∧ Below (w.heap.size + 1) (w.alloc (.cells #[.slice A0 es.length n0, .slice A ks.length m] 27)) wr) (fun i _ => es.length - (intOf i).toNat)
  case atStart => exact ⟨0, Nat.zero_le _, rfl, rfl, Below.refl _ _⟩
  case round =>
    obtain ⟨k, hk, rfl, hrel, hb⟩ := hrel
    have hsz := hb.size
    simp only [World.size_alloc] at hsz
    have hB0 : Below w.heap.size w wr := ((Below.refl _ w).alloc (Nat.le_refl _) _).trans (hb.mono (by omega))
    by_cases hlt : k < es.length
    · obtain ⟨x, hx⟩ : ∃ x, es[k]? = some x := ⟨_, List.getElem?_eq_getElem hlt⟩
      obtain ⟨b, off, rfl, hbB, hc⟩ := d3 (by rintro rfl; simp at hlt)
      obtain ⟨cs, ⟨rfl, hok⟩, _, hu⟩ := hc k _ hx
      have f0 := far_cell (B := wr.heap.size) ((hB0.cell hbB).trans (hu 0 _ rfl)) (by omega)
      have f1 := far_cell (B := wr.heap.size) ((hB0.cell hbB).trans (hu 1 _ rfl)) (by omega)
      have f2 := far_cell (B := wr.heap.size) ((hB0.cell hbB).trans (hu 2 _ rfl)) (by omega)
      have f3 := far_cell (B := wr.heap.size) ((hB0.cell hbB).trans (hu 3 _ rfl)) (by omega)
      simp only [Nat.add_zero] at f0
      have z0 : wr.cell? ⟨w.heap.size, 0, none⟩ = some (.slice (some ⟨b, off, none⟩) es.length n0) := by rw [hb.cell (p := ⟨w.heap.size, 0, none⟩) (by simp)]; simp
      have r0 := far_cell (B := wr.heap.size) z0 (by omega)
      have HB0 := hid hB0
      have hprev : ∃ y : En, (0 < k → es[k - 1]? = some y ∧ (∀ p : Far wr.heap.size wr, p.w'.cell? ⟨b, off + (k - 1) * 4, none⟩ = some (.int .i64 y.dc) ∧ p.w'.cell? ⟨b, off + (k - 1) * 4 + 1, none⟩ = some (.int .i64 y.n))) := by
        by_cases h0 : 0 < k
        · obtain ⟨y, hy⟩ : ∃ y, es[k - 1]? = some y := ⟨_, List.getElem?_eq_getElem (by omega)⟩
          obtain ⟨cs, ⟨rfl, _⟩, _, hu⟩ := hc (k - 1) _ hy
          exact ⟨y, fun _ => ⟨hy, fun p => ⟨far_cell ((hB0.cell hbB).trans (hu 0 _ rfl)) (by omega) p, far_cell ((hB0.cell hbB).trans (hu 1 _ rfl)) (by omega) p⟩⟩⟩
        · exact ⟨x, fun h => absurd h h0⟩
      obtain ⟨y, hprev⟩ := hprev
      have HR : Hid (entsB none es = (x.right && okP (prevD es k) x.dot && entsB (prevD es (k + 1)) (es.drop (k + 1)))) := by
        have := hrel.out
        rw [drop_cons hx, entsB_cons] at this
        rw [prevD_succ hx]; exact this.symm
      clear hu hc hrel d3 c3 z0 hx hB0
      rcases hxr : x.right
      · go_upto_region 6 with (fail)
        refine wp_region_far wr.heap.size (by kernel_rfl) (by kernel_rfl) ?_
        repeat (go_big_quiet_step (first | (go_at_call 182; exact Calls.far_of (Nat.le_refl _) (r08entry_any x _)) | (go_at_call 176; exact Calls.far_of (Nat.le_refl _) (r05less_any ⟨_, _⟩ ⟨_, _⟩ _))))
        refine wpQuiet_nil ?_
        intro wq hbq
        go_wp2_with fail
        go_ret
        refine ⟨ret_bool ?_, HB0.out.trans (hbq.mono (by omega))⟩
        rw [Tr.right, HR.out]
        rw [hxr]; simp
      rcases Nat.eq_zero_or_pos k with h0 | h0
      · have t0 : decide ((0 : Int) < (k : Int)) = false := by simp; omega
        have t0' : decide (0 < k) = false := by simp; omega
        have H0 := hid h0
        clear h0 hprev
        go_upto_region 6 with (fail)
        refine wp_region_far wr.heap.size (by kernel_rfl) (by kernel_rfl) ?_
        repeat (go_big_quiet_step (first | (go_at_call 182; exact Calls.far_of (Nat.le_refl _) (r08entry_any x _)) | (go_at_call 176; exact Calls.far_of (Nat.le_refl _) (r05less_any ⟨_, _⟩ ⟨_, _⟩ _))))
        refine wpQuiet_nil ?_
        intro wq hbq
        go_wp2_with fail
        go_roundw
        case rel =>
          refine ⟨k + 1, by omega, by go_num, ?_, hb.trans (hbq.mono (by omega))⟩
          show _ = _
          rw [HR.out, hxr]
          rw [show prevD es k = none by (rw [H0.out]; rfl)]; simp [okP]
        case measure => simp [intOf]; omega
      obtain ⟨hy, hq⟩ := hprev h0
      have q0 := fun p => (hq p).1
      have q1 := fun p => (hq p).2
      clear hq hprev
      have hyp : Hid (prevD es k = some y.dot) := by unfold Hid prevD; rw [if_neg (by omega), hy]; rfl
      have hwk : IntKind.i64.wrap ((k : Int) - 1) = (k : Int) - 1 := IntWalk.i64_in _ (by omega)
      clear hy
      rcases t5 : Dt.lt ⟨y.dc, y.n⟩ ⟨x.dc, x.n⟩
      · go_upto_region 6 with (fail)
        refine wp_region_far wr.heap.size (by kernel_rfl) (by kernel_rfl) ?_
        repeat (go_big_quiet_step (first | (go_at_call 182; exact Calls.far_of (Nat.le_refl _) (r08entry_any x _)) | (go_at_call 176; exact Calls.far_of (Nat.le_refl _) (r05less_any ⟨_, _⟩ ⟨_, _⟩ _))))
        refine wpQuiet_nil ?_
        intro wq hbq
        go_wp2_with fail
        go_ret
        refine ⟨ret_bool ?_, HB0.out.trans (hbq.mono (by omega))⟩
        rw [Tr.right, HR.out]
        rw [hyp.out, show okP (some y.dot) x.dot = false from t5]; simp
      · go_upto_region 6 with (fail)
        refine wp_region_far wr.heap.size (by kernel_rfl) (by kernel_rfl) ?_
        repeat (go_big_quiet_step (first | (go_at_call 182; exact Calls.far_of (Nat.le_refl _) (r08entry_any x _)) | (go_at_call 176; exact Calls.far_of (Nat.le_refl _) (r05less_any ⟨_, _⟩ ⟨_, _⟩ _))))
        refine wpQuiet_nil ?_
        intro wq hbq
        go_wp2_with fail
        go_roundw
        case rel =>
          refine ⟨k + 1, by omega, by go_num, ?_, hb.trans (hbq.mono (by omega))⟩
          show _ = _
          rw [HR.out, hxr]
          rw [hyp.out, show okP (some y.dot) x.dot = true from t5]; simp
        case measure => simp [intOf]; omega
    · obtain rfl : k = es.length := by omega
      have hE : Hid (entsB none es = true) := by have := hrel.out; rw [List.drop_of_length_le (Nat.le_refl _)] at this; rw [← this]; simp [Hid, entsB]
      clear hrel
      have z9 : wr.cell? ⟨w.heap.size, 1, none⟩ = some (.slice A ks.length m) := by rw [hb.cell (p := ⟨w.heap.size, 1, none⟩) (by simp)]; simp
      go_wp2_with fail
      clear z9
      obtain ⟨wo, rfl⟩ : ∃ wo : World, wo = wr := ⟨_, rfl⟩
      go_loopw [48] (fun i wr => ∃ k : Nat, k ≤ ks.length ∧ i = .int .i64 k ∧ Hid (Tr.rightL (prevK ks k) (ks.drop k) deep = Tr.rightL none ks deep) ∧ Below (w.heap.size + 1) (w.alloc (.cells #[.slice A0 es.length n0, .slice A ks.length m] 27)) wr) (fun i _ => ks.length - (intOf i).toNat)
      case atStart => exact ⟨0, Nat.zero_le _, rfl, rfl, hb⟩
      case round =>
        clear hb hsz hB0
        obtain ⟨k, hk, rfl, hrel, hb⟩ := hrel
        have hsz := hb.size
        simp only [World.size_alloc] at hsz
        have hB0 : Below w.heap.size w wr := ((Below.refl _ w).alloc (Nat.le_refl _) _).trans (hb.mono (by omega))
        by_cases hlt : k < ks.length
        · obtain ⟨⟨key, t⟩, hx⟩ : ∃ x, ks[k]? = some x := ⟨_, List.getElem?_eq_getElem hlt⟩
          obtain ⟨b, off, rfl, hbB, hc⟩ := c3 (by rintro rfl; simp at hlt)
          obtain ⟨cs, ⟨ve', vk', rfl, hkb, hrd⟩, _, hu⟩ := hc k _ hx
          have hbo : ∀ o, wr.cell? ⟨b, o, none⟩ = w.cell? ⟨b, o, none⟩ := fun o => (hb.cell (p := ⟨b, o, none⟩) (by simp; omega)).trans (World.cell?_alloc_lt _ _ _ hbB)
          have hmem : (key, t) ∈ ks := List.mem_of_getElem? hx
          obtain ⟨es', ks'⟩ := t
          have hrd0 := hrd
          rw [rd_iff] at hrd
          obtain ⟨⟨A1, n1, rfl, l1, l1', _⟩, ⟨A2, n2, rfl, l2, l2', _⟩⟩ := hrd
          unfold Big at l1' l2'
          have e0 : wr.cell? ⟨b, off + k * 3, none⟩ = some (.string key) := (hbo _).trans (hu 0 _ rfl)
          have e1 : wr.cell? ⟨b, off + k * 3 + 1, none⟩ = some (.slice A1 es'.length n1) := (hbo _).trans (hu 1 _ rfl)
          have e2 : wr.cell? ⟨b, off + k * 3 + 2, none⟩ = some (.slice A2 ks'.length n2) := (hbo _).trans (hu 2 _ rfl)
          have z1 : wr.cell? ⟨w.heap.size, 1, none⟩ = some (.slice (some ⟨b, off, none⟩) ks.length m) := by rw [hb.cell (p := ⟨w.heap.size, 1, none⟩) (by simp)]; simp
          have HO := hid hbo
          clear hu hbo
          go_upto_region 13 with (fail)
          have hrd : Hid (∀ w', Below (wr.heap.size + 1) (wr.alloc (.cells #[.string key, .slice A1 es'.length n1, .slice A2 ks'.length n2] 155)) w' → (Tr.mk es' ks').rd w' w'.heap.size (.slice A1 es'.length n1) (.slice A2 ks'.length n2)) := fun w' hb' => by
            have h1 := hb'.size
            simp only [World.size_alloc] at h1
            exact rd_below ((hB0.alloc (by omega) _).trans (hb'.mono (by omega))) (by omega) _ _ _ hrd0
          have f0 : ∀ p : Far (wr.heap.size + 1) (wr.alloc (.cells #[.string key, .slice A1 es'.length n1, .slice A2 ks'.length n2] 155)), p.w'.cell? ⟨wr.heap.size, 0, none⟩ = some (.string key) := far_cell (by simp) (by omega)
          have f1 : ∀ p : Far (wr.heap.size + 1) (wr.alloc (.cells #[.string key, .slice A1 es'.length n1, .slice A2 ks'.length n2] 155)), p.w'.cell? ⟨wr.heap.size, 1, none⟩ = some (.slice A1 es'.length n1) := far_cell (by simp) (by omega)
          have f2 : ∀ p : Far (wr.heap.size + 1) (wr.alloc (.cells #[.string key, .slice A1 es'.length n1, .slice A2 ks'.length n2] 155)), p.w'.cell? ⟨wr.heap.size, 2, none⟩ = some (.slice A2 ks'.length n2) := far_cell (by simp) (by omega)
          have g1 : ∀ p : Far (wr.heap.size + 1) (wr.alloc (.cells #[.string key, .slice A1 es'.length n1, .slice A2 ks'.length n2] 155)), p.w'.cell? ⟨w.heap.size, 1, none⟩ = some (.slice (some ⟨b, off, none⟩) ks.length m) := far_cell (by
            rw [World.cell?_alloc_lt _ _ _ (by exact hsz)]; exact z1) (by omega)
          have hprev : ∃ q : ByteArray, (0 < k → prevK ks k = some q ∧ (∀ p : Far (wr.heap.size + 1) (wr.alloc (.cells #[.string key, .slice A1 es'.length n1, .slice A2 ks'.length n2] 155)), p.w'.cell? ⟨b, off + (k - 1) * 3, none⟩ = some (.string q))) := by
            by_cases h0 : 0 < k
            · obtain ⟨y, hy⟩ : ∃ y, ks[k - 1]? = some y := ⟨_, List.getElem?_eq_getElem (by omega)⟩
              obtain ⟨cs, ⟨_, _, rfl, _⟩, _, hu⟩ := hc (k - 1) _ hy
              refine ⟨y.1, fun _ => ⟨by rw [prevK, if_neg (by omega), hy]; rfl, fun p => far_cell ?_ (by omega) p⟩⟩
              rw [World.cell?_alloc_lt _ _ _ (by show b < wr.heap.size; omega)]; exact (HO.out _).trans (hu 0 _ rfl)
            · exact ⟨key, fun h => absurd h h0⟩
          obtain ⟨q, hprev⟩ := hprev
          have HR : Hid (Tr.rightL none ks deep = (keyB key && okK (prevK ks k) key && !(Tr.mk es' ks').empty && (Tr.mk es' ks').right (deep - 1) && Tr.rightL (prevK ks (k + 1)) (ks.drop (k + 1)) deep)) := by
            have := hrel.out
            rw [drop_cons hx, rightL_cons] at this
            rw [prevK_succ hx]; exact this.symm
          have HX : Hid (ks[k]? = some (key, .mk es' ks')) := hx
          have hemp : (Tr.mk es' ks').empty = (((es'.length : Int) + (ks'.length : Int)) == 0) := by
            rw [Bool.eq_iff_iff]; simp [Tr.empty]; constructor
            · rintro ⟨rfl, rfl⟩; simp
            · intro h; exact ⟨List.eq_nil_of_length_eq_zero (by omega), List.eq_nil_of_length_eq_zero (by omega)⟩
          have HM := hid hemp
          have hsum : IntKind.i64.wrap ((es'.length : Int) + (ks'.length : Int)) = (es'.length : Int) + (ks'.length : Int) := IntWalk.i64_in _ (by omega)
          clear hc hrel c3 hx e0 e1 e2 hrd0 hemp z1 d3
          rcases h1 : keyB key
          · go_upto_region 13 with (fail)
            refine wp_region_far (wr.heap.size + 1) (by kernel_rfl) (by kernel_rfl) ?_
            repeat (go_big_quiet_step (first | (go_at_call 142; exact Calls.far_of (by simp) (r08key_any key _)) | (go_at_call 122; exact Calls.far_all (by simp) (fun w' hb' => (ih key (.mk es' ks') hmem (deep - 1) w' _ _ (hrd.out w' hb') (by omega) (by omega))))))
            refine wpQuiet_nil ?_
            intro wq hbq
            have hbw : Below (w.heap.size + 1) (w.alloc (.cells #[.slice A0 es.length n0, .slice (some ⟨b, off, none⟩) ks.length m] 27)) wq := (hb.alloc (by omega) _).trans (hbq.mono (by omega))
            go_wp2_with fail
            go_ret
            refine ⟨ret_bool ?_, ((Below.refl _ w).alloc (Nat.le_refl _) _).trans (hbw.mono (by omega))⟩
            rw [Tr.right, HR.out, hE.out]
            rw [h1]; simp
          rcases Nat.eq_zero_or_pos k with h0 | h0
          · have t0 : decide ((0 : Int) < (k : Int)) = false := by simp; omega
            have t0' : decide (0 < k) = false := by simp; omega
            have hpk : Hid (okK (prevK ks k) key = true) := by rw [show prevK ks k = none by (rw [h0]; rfl)]; rfl
            clear h0 hprev
            rcases h6 : (((es'.length : Int) + (ks'.length : Int)) == 0)
            case true =>
              have h6' : (es'.length : Int) + (ks'.length : Int) = 0 := by simpa using h6
              go_upto_region 13 with (fail)
              refine wp_region_far (wr.heap.size + 1) (by kernel_rfl) (by kernel_rfl) ?_
              repeat (go_big_quiet_step (first | (go_at_call 142; exact Calls.far_of (by simp) (r08key_any key _)) | (go_at_call 122; exact Calls.far_all (by simp) (fun w' hb' => (ih key (.mk es' ks') hmem (deep - 1) w' _ _ (hrd.out w' hb') (by omega) (by omega))))))
              refine wpQuiet_nil ?_
              intro wq hbq
              have hbw : Below (w.heap.size + 1) (w.alloc (.cells #[.slice A0 es.length n0, .slice (some ⟨b, off, none⟩) ks.length m] 27)) wq := (hb.alloc (by omega) _).trans (hbq.mono (by omega))
              go_wp2_with fail
              go_ret
              refine ⟨ret_bool ?_, ((Below.refl _ w).alloc (Nat.le_refl _) _).trans (hbw.mono (by omega))⟩
              rw [Tr.right, HR.out, hE.out]
              rw [HM.out, h6]; simp
            rcases h7 : (Tr.mk es' ks').right (deep - 1)
            · go_upto_region 13 with (fail)
              refine wp_region_far (wr.heap.size + 1) (by kernel_rfl) (by kernel_rfl) ?_
              repeat (go_big_quiet_step (first | (go_at_call 142; exact Calls.far_of (by simp) (r08key_any key _)) | (go_at_call 122; exact Calls.far_all (by simp) (fun w' hb' => (ih key (.mk es' ks') hmem (deep - 1) w' _ _ (hrd.out w' hb') (by omega) (by omega))))))
              refine wpQuiet_nil ?_
              intro wq hbq
              have hbw : Below (w.heap.size + 1) (w.alloc (.cells #[.slice A0 es.length n0, .slice (some ⟨b, off, none⟩) ks.length m] 27)) wq := (hb.alloc (by omega) _).trans (hbq.mono (by omega))
              go_wp2_with fail
              go_ret
              refine ⟨ret_bool ?_, ((Below.refl _ w).alloc (Nat.le_refl _) _).trans (hbw.mono (by omega))⟩
              rw [Tr.right, HR.out, hE.out]
              rw [h7]; simp
            · go_upto_region 13 with (fail)
              refine wp_region_far (wr.heap.size + 1) (by kernel_rfl) (by kernel_rfl) ?_
              repeat (go_big_quiet_step (first | (go_at_call 142; exact Calls.far_of (by simp) (r08key_any key _)) | (go_at_call 122; exact Calls.far_all (by simp) (fun w' hb' => (ih key (.mk es' ks') hmem (deep - 1) w' _ _ (hrd.out w' hb') (by omega) (by omega))))))
              refine wpQuiet_nil ?_
              intro wq hbq
              have hbw : Below (w.heap.size + 1) (w.alloc (.cells #[.slice A0 es.length n0, .slice (some ⟨b, off, none⟩) ks.length m] 27)) wq := (hb.alloc (by omega) _).trans (hbq.mono (by omega))
              go_wp2_with fail
              go_roundw
              case rel =>
                refine ⟨k + 1, by omega, by go_num, ?_, hbw⟩
                show _ = _
                rw [HR.out, h1]
                rw [hpk.out, HM.out, h6, h7]; simp
              case measure => simp [intOf]; omega
          · obtain ⟨hq, q0⟩ := hprev h0
            have hwk : IntKind.i64.wrap ((k : Int) - 1) = (k : Int) - 1 := IntWalk.i64_in _ (by omega)
            rcases t5 : Op.bytesLess q.toList key.toList
            · have hpk : Hid (okK (prevK ks k) key = false) := by rw [hq]; exact t5
              clear hprev hq
              go_upto_region 13 with (fail)
              refine wp_region_far (wr.heap.size + 1) (by kernel_rfl) (by kernel_rfl) ?_
              repeat (go_big_quiet_step (first | (go_at_call 142; exact Calls.far_of (by simp) (r08key_any key _)) | (go_at_call 122; exact Calls.far_all (by simp) (fun w' hb' => (ih key (.mk es' ks') hmem (deep - 1) w' _ _ (hrd.out w' hb') (by omega) (by omega))))))
              refine wpQuiet_nil ?_
              intro wq hbq
              have hbw : Below (w.heap.size + 1) (w.alloc (.cells #[.slice A0 es.length n0, .slice (some ⟨b, off, none⟩) ks.length m] 27)) wq := (hb.alloc (by omega) _).trans (hbq.mono (by omega))
              go_wp2_with fail
              go_ret
              refine ⟨ret_bool ?_, ((Below.refl _ w).alloc (Nat.le_refl _) _).trans (hbw.mono (by omega))⟩
              rw [Tr.right, HR.out, hE.out]
              rw [h1, hpk.out]; simp
            · have hpk : Hid (okK (prevK ks k) key = true) := by rw [hq]; exact t5
              clear hprev hq
              rcases h6 : (((es'.length : Int) + (ks'.length : Int)) == 0)
              case true =>
                have h6' : (es'.length : Int) + (ks'.length : Int) = 0 := by simpa using h6
                go_upto_region 13 with (fail)
                refine wp_region_far (wr.heap.size + 1) (by kernel_rfl) (by kernel_rfl) ?_
                repeat (go_big_quiet_step (first | (go_at_call 142; exact Calls.far_of (by simp) (r08key_any key _)) | (go_at_call 122; exact Calls.far_all (by simp) (fun w' hb' => (ih key (.mk es' ks') hmem (deep - 1) w' _ _ (hrd.out w' hb') (by omega) (by omega))))))
                refine wpQuiet_nil ?_
                intro wq hbq
                have hbw : Below (w.heap.size + 1) (w.alloc (.cells #[.slice A0 es.length n0, .slice (some ⟨b, off, none⟩) ks.length m] 27)) wq := (hb.alloc (by omega) _).trans (hbq.mono (by omega))
                go_wp2_with fail
                go_ret
                refine ⟨ret_bool ?_, ((Below.refl _ w).alloc (Nat.le_refl _) _).trans (hbw.mono (by omega))⟩
                rw [Tr.right, HR.out, hE.out]
                rw [HM.out, h6]; simp
              rcases h7 : (Tr.mk es' ks').right (deep - 1)
              · go_upto_region 13 with (fail)
                refine wp_region_far (wr.heap.size + 1) (by kernel_rfl) (by kernel_rfl) ?_
                repeat (go_big_quiet_step (first | (go_at_call 142; exact Calls.far_of (by simp) (r08key_any key _)) | (go_at_call 122; exact Calls.far_all (by simp) (fun w' hb' => (ih key (.mk es' ks') hmem (deep - 1) w' _ _ (hrd.out w' hb') (by omega) (by omega))))))
                refine wpQuiet_nil ?_
                intro wq hbq
                have hbw : Below (w.heap.size + 1) (w.alloc (.cells #[.slice A0 es.length n0, .slice (some ⟨b, off, none⟩) ks.length m] 27)) wq := (hb.alloc (by omega) _).trans (hbq.mono (by omega))
                go_wp2_with fail
                go_ret
                refine ⟨ret_bool ?_, ((Below.refl _ w).alloc (Nat.le_refl _) _).trans (hbw.mono (by omega))⟩
                rw [Tr.right, HR.out, hE.out]
                rw [h7]; simp
              · go_upto_region 13 with (fail)
                refine wp_region_far (wr.heap.size + 1) (by kernel_rfl) (by kernel_rfl) ?_
                repeat (go_big_quiet_step (first | (go_at_call 142; exact Calls.far_of (by simp) (r08key_any key _)) | (go_at_call 122; exact Calls.far_all (by simp) (fun w' hb' => (ih key (.mk es' ks') hmem (deep - 1) w' _ _ (hrd.out w' hb') (by omega) (by omega))))))
                refine wpQuiet_nil ?_
                intro wq hbq
                have hbw : Below (w.heap.size + 1) (w.alloc (.cells #[.slice A0 es.length n0, .slice (some ⟨b, off, none⟩) ks.length m] 27)) wq := (hb.alloc (by omega) _).trans (hbq.mono (by omega))
                go_wp2_with fail
                go_roundw
                case rel =>
                  refine ⟨k + 1, by omega, by go_num, ?_, hbw⟩
                  show _ = _
                  rw [HR.out, h1]
                  rw [hpk.out, HM.out, h6, h7]; simp
                case measure => simp [intOf]; omega
        · obtain rfl : k = ks.length := by omega
          have hr := hrel.out
          go_wp2_with fail
          go_ret
          refine ⟨ret_bool ?_, hB0⟩
          rw [Tr.right, ← hr, hE.out]
          simp [Tr.rightL]; omega

theorem r08Right_any (t : Tr) (w : World) (ve vk : Value) (h : t.rd w w.heap.size ve vk) :
    Calls Tryz.prog 40 #[.agg #[ve, vk]] w fun e w' => e = .returned (.bool (t.right 5)) ∧ Below w.heap.size w w' := by
  obtain ⟨A, n, A', m, rfl, rfl⟩ := rd_shape h
  have hb0 : Below w.heap.size w (w.alloc (.cells #[.slice A t.es.length n, .slice A' t.ks.length m] 27)) := (Below.refl _ w).alloc (Nat.le_refl _) _
  go_enter Tryz.func40, Tryz.ntmps40
  go_wp2_with (go_at_call 122; refine (r08right_any t 5 _ _ _ (rd_below hb0 (by simp) _ _ _ h) (by omega) (by omega)).mono ?_; rintro e w1 ⟨rfl, hb1⟩)
  go_ret
  exact ⟨rfl, hb0.trans (hb1.mono (by simp))⟩

theorem r08small_any (t : Tr) (w : World) (ve vk : Value) (n : Int) (h : t.rd w w.heap.size ve vk) (h0 : 0 ≤ n) (h1 : n ≤ 1000) :
    Calls Tryz.prog 121 #[.agg #[ve, vk], .int .i64 n] w fun e w' => e = .returned (.bool (decide (0 ≤ t.room n 8))) ∧ Below w.heap.size w w' := by
  obtain ⟨A, n', A', m, rfl, rfl⟩ := rd_shape h
  have hb0 : Below w.heap.size w (w.alloc (.cells #[.slice A t.es.length n', .slice A' t.ks.length m] 27)) := (Below.refl _ w).alloc (Nat.le_refl _) _
  go_enter Tryz.func121, Tryz.ntmps121
  go_wp2_with (go_at_call 181; refine (room_any t n 8 _ _ _ (rd_below hb0 (by simp) _ _ _ h) h0 h1 (by omega) (by omega)).mono ?_; rintro e w1 ⟨rfl, hb1⟩)
  go_ret
  exact ⟨rfl, hb0.trans (hb1.mono (by simp))⟩
end Go.Proofs.YtmphgnjodangcaaGreat

namespace Go.Proofs.YtmphgnjodangcaaGreat
open Go.RowKit
set_option maxRecDepth 100000

mutual
/-- How many levels a tree has. -/
def Tr.dep : Tr → Nat | .mk _ ks => Tr.depL ks + 1
def Tr.depL : List (ByteArray × Tr) → Nat | [] => 0 | (_, t) :: ks => max t.dep (Tr.depL ks)
end
theorem depL_le : ∀ {ks : List Kd} {k : ByteArray} {t : Tr}, (k, t) ∈ ks → t.dep ≤ Tr.depL ks
  | (k', t') :: ks, k, t, h => by
    rw [Tr.depL]
    rcases List.mem_cons.1 h with e | e
    · cases e; exact Nat.le_max_left _ _
    · exact Nat.le_trans (depL_le e) (Nat.le_max_right _ _)
theorem depL_take : ∀ {ks : List Kd} {n : Nat} {k : ByteArray} {t : Tr}, ks[n]? = some (k, t) → Tr.depL (ks.take (n + 1)) = max (Tr.depL (ks.take n)) t.dep
  | (k', t') :: ks, 0, k, t, h => by simp at h; obtain ⟨rfl, rfl⟩ := h; simp [Tr.depL]
  | (k', t') :: ks, n + 1, k, t, h => by
    simp only [List.take_succ_cons]
    rw [Tr.depL, Tr.depL, depL_take (ks := ks) (n := n) (by simpa using h), Nat.max_assoc]
theorem depL_take_le (ks : List Kd) : ∀ n, Tr.depL (ks.take n) ≤ Tr.depL ks := by
  induction ks with
  | nil => intro n; simp
  | cons x ks ih =>
    obtain ⟨k, t⟩ := x
    intro n
    cases n with
    | zero => simp [Tr.depL]
    | succ n => simp only [List.take_succ_cons]; rw [Tr.depL, Tr.depL]; have := ih n; omega
theorem max_int (a b : Nat) : max (a : Int) (b : Int) = ((max a b : Nat) : Int) := by omega

set_option maxHeartbeats 1000000 in
theorem tdeep_any (t : Tr) : ∀ (w : World) (ve vk : Value), t.rd w w.heap.size ve vk → t.dep ≤ 1000 →
    Calls Tryz.prog 197 #[.agg #[ve, vk]] w fun e w' => e = .returned (.int .i64 (t.dep : Nat)) ∧ Below w.heap.size w w' := by
  induction t using Tr.ind with
  | h es ks ih =>
  intro w ve vk h hN
  rw [rd_iff] at h
  obtain ⟨⟨A1, n, rfl, b1, b2, b3⟩, ⟨A2, m, rfl, c1, c2, c3⟩⟩ := h
  clear b3
  unfold Big at b2 c2
  rw [Tr.dep] at hN
  go_enter Tryz.func197, Tryz.ntmps197
  go_wp2_with fail
  go_loopw [3, 9] (fun v i wr => ∃ k : Nat, k ≤ ks.length ∧ i = .int .i64 k ∧ v = .int .i64 (Tr.depL (ks.take k) : Nat) ∧
      Below (w.heap.size + 1) (w.alloc (.cells #[.slice A1 es.length n, .slice A2 ks.length m] 27)) wr) (fun _ i _ => ks.length - (intOf i).toNat)
  case atStart => exact ⟨0, Nat.zero_le _, rfl, by simp [Tr.depL], Below.refl _ _⟩
  case round =>
    obtain ⟨k, hk, rfl, rfl, hb⟩ := hrel
    have hsz := hb.size
    simp only [World.size_alloc] at hsz
    have hdk := depL_take_le ks k
    by_cases hlt : k < ks.length
    · obtain ⟨⟨key, t⟩, hx⟩ : ∃ x, ks[k]? = some x := ⟨_, List.getElem?_eq_getElem hlt⟩
      obtain ⟨b, off, rfl, hbB, hc⟩ := c3 (by rintro rfl; simp at hlt)
      obtain ⟨cs, ⟨ve', vk', rfl, hkb, hrd⟩, _, hu⟩ := hc k _ hx
      obtain ⟨A3, n3, A4, n4, rfl, rfl⟩ := rd_shape hrd
      have hbo : ∀ o, wr.cell? ⟨b, o, none⟩ = w.cell? ⟨b, o, none⟩ := fun o => (hb.cell (p := ⟨b, o, none⟩) (by simp; omega)).trans (World.cell?_alloc_lt _ _ _ hbB)
      have e0 : wr.cell? ⟨b, off + k * 3, none⟩ = some (.string key) := (hbo _).trans (hu 0 _ rfl)
      have e1 : wr.cell? ⟨b, off + k * 3 + 1, none⟩ = some (.slice A3 t.es.length n3) := (hbo _).trans (hu 1 _ rfl)
      have e2 : wr.cell? ⟨b, off + k * 3 + 2, none⟩ = some (.slice A4 t.ks.length n4) := (hbo _).trans (hu 2 _ rfl)
      have hmem : (key, t) ∈ ks := List.mem_of_getElem? hx
      have hB0 : Below w.heap.size w wr := ((Below.refl _ w).alloc (Nat.le_refl _) _).trans (hb.mono (by omega))
      have HR : Hid (∀ o, t.rd (wr.alloc o) (wr.alloc o).heap.size (.slice A3 t.es.length n3) (.slice A4 t.ks.length n4)) := fun o => rd_below (hB0.alloc (by omega) _) (by simp; omega) _ _ _ hrd
      have HX := hid (depL_take hx)
      have hdt : t.dep ≤ 1000 := by have := depL_le hmem; omega
      clear hu hbo hx hc c3 hrd
      go_wp2_with (go_at_call 197; go_loud (refine (ih key t hmem _ _ _ (HR.out _) hdt).mono ?_); rintro e w2 ⟨rfl, hb2⟩; have hs2 := hb2.size; simp only [World.size_alloc] at hs2)
      go_roundw
      case rel =>
        refine ⟨k + 1, by omega, by go_num, by (rw [HX.out, ← max_int]); try (congr 1; first | omega | (split <;> omega)), (hb.alloc (by omega) _).trans (hb2.mono (by simp; omega))⟩
      case measure => simp [intOf]; omega
    · obtain rfl : k = ks.length := by omega
      rw [List.take_of_length_le (Nat.le_refl _)] at hdk ⊢
      go_wp2_with fail
      go_ret
      exact ⟨by rw [Tr.dep]; go_num, ((Below.refl _ w).alloc (Nat.le_refl _) _).trans (hb.mono (by omega))⟩
end Go.Proofs.YtmphgnjodangcaaGreat

namespace Go.Proofs.YtmphgnjodangcaaGreat
open Go.RowKit

mutual
theorem room_sz : ∀ (t : Tr) (left deep : Int), 0 ≤ t.room left deep → (t.sz : Int) + t.room left deep ≤ left
  | .mk es ks, left, deep, h => by
    rw [Tr.room] at h ⊢
    have := roomL_sz ks _ deep h
    rw [Tr.sz]
    push_cast
    omega
theorem roomL_sz : ∀ (ks : List (ByteArray × Tr)) (left deep : Int), 0 ≤ Tr.roomL ks left deep → (Tr.szL ks : Int) - ks.length + Tr.roomL ks left deep ≤ left
  | [], left, deep, h => by rw [Tr.roomL] at h ⊢; simp [Tr.szL]
  | (k, t) :: ks, left, deep, h => by
    rw [Tr.roomL] at h ⊢
    split at h
    · omega
    · rename_i hc
      rw [if_neg hc]
      have h1 := roomL_sz ks _ deep h
      have hs := szL_len ks
      by_cases h2 : 0 ≤ t.room left (deep - 1)
      · have h3 := room_sz t left (deep - 1) h2
        rw [Tr.szL]; simp only [List.length_cons]; push_cast; omega
      · omega
end
/-- A small tree. -/
def smlB (t : Tr) (n : Int) : Bool := decide (0 ≤ t.room n 8)
theorem sml_sz {t : Tr} {n : Int} (h : smlB t n = true) : (t.sz : Int) ≤ n := by
  have h := of_decide_eq_true h
  have := room_sz t n 8 h
  omega
end Go.Proofs.YtmphgnjodangcaaGreat

namespace Go.Proofs.YtmphgnjodangcaaGreat
open Go.RowKit
set_option maxRecDepth 100000

def sumE (es : List En) : Int := es.foldl (fun s e => wrap64 (s + e.v)) 0
theorem sumE_take {es : List En} {k : Nat} {x : En} (h : es[k]? = some x) : sumE (es.take (k + 1)) = wrap64 (sumE (es.take k) + x.v) := by
  unfold sumE; rw [List.take_add_one, h, List.foldl_append]; rfl
end Go.Proofs.YtmphgnjodangcaaGreat

namespace Go.Proofs.YtmphgnjodangcaaGreat
open Go.RowKit
set_option maxRecDepth 100000

/-- A counter's value. -/
def valT (t : Tr) : Int := if t.right 5 then sumE t.es else 0
set_option maxHeartbeats 4000000 in
theorem cvalue_any (t : Tr) (w : World) (ve vk : Value) (h : t.rd w w.heap.size ve vk) :
    Calls Tryz.prog 46 #[.agg #[ve, vk]] w fun e w' => e = .returned (.int .i64 (valT t)) ∧ Below w.heap.size w w' := by
  have HC : Hid (∀ w', Below w.heap.size w w' → t.rd w' w'.heap.size ve vk) := fun w' hb => rd_below hb hb.size _ _ _ h
  obtain ⟨es, ks⟩ := t
  rw [rd_iff] at h
  obtain ⟨⟨A0, n0, rfl, d1, d2, d3⟩, ⟨A, m, rfl, _, _, _⟩⟩ := h
  unfold Big at d2
  have hb0 : Below w.heap.size w (w.alloc (.cells #[.slice A0 es.length n0, .slice A ks.length m] 27)) := (Below.refl _ w).alloc (Nat.le_refl _) _
  go_enter Tryz.func46, Tryz.ntmps46
  go_wp2_with fail
  refine (tRight_any (.mk es ks) _ _ _ (HC.out _ hb0)).mono ?_
  rintro e w1 ⟨rfl, hb1⟩
  have hs1 := hb1.size
  simp only [World.size_alloc] at hs1
  have hB1 : Below w.heap.size w w1 := hb0.trans (hb1.mono (by simp))
  have c0 : w1.cell? ⟨w.heap.size, 0, none⟩ = some (.slice A0 es.length n0) := by rw [hb1.cell (p := ⟨w.heap.size, 0, none⟩) (by simp)]; simp
  cases hr : Tr.right (.mk es ks) 5
  · have HR : Hid (valT (.mk es ks) = 0) := by unfold Hid valT; rw [hr]; rfl
    clear hr hb1 hb0 d3
    go_wp2_with fail
    go_ret
    exact ⟨ret_int HR.out.symm, hB1⟩
  · have HR : Hid (valT (.mk es ks) = sumE es) := by unfold Hid valT; rw [hr]; rfl
    clear hr hb1 hb0
    go_wp2_with fail
    go_loopw [3, 11] (fun s i wr => ∃ k : Nat, k ≤ es.length ∧ i = .int .i64 k ∧ s = .int .i64 (sumE (es.take k)) ∧ Below w.heap.size w wr) (fun _ i _ => es.length - (intOf i).toNat)
    case atStart => exact ⟨0, Nat.zero_le _, rfl, rfl, hB1⟩
    case round =>
      obtain ⟨k, hk, rfl, rfl, hb⟩ := hrel
      have hsz := hb.size
      by_cases hlt : k < es.length
      · obtain ⟨x, hx⟩ : ∃ x, es[k]? = some x := ⟨_, List.getElem?_eq_getElem hlt⟩
        obtain ⟨b, off, rfl, hbB, hc⟩ := d3 (by rintro rfl; simp at hlt)
        obtain ⟨cs, ⟨rfl, hok⟩, _, hu⟩ := hc k _ hx
        have e0 : wr.cell? ⟨b, off + k * 4, none⟩ = some (.int .i64 x.dc) := (hb.cell hbB).trans (hu 0 _ rfl)
        have e1 : wr.cell? ⟨b, off + k * 4 + 1, none⟩ = some (.int .i64 x.n) := (hb.cell hbB).trans (hu 1 _ rfl)
        have e2 : wr.cell? ⟨b, off + k * 4 + 2, none⟩ = some (.string x.s) := (hb.cell hbB).trans (hu 2 _ rfl)
        have e3 : wr.cell? ⟨b, off + k * 4 + 3, none⟩ = some (.int .i64 x.v) := (hb.cell hbB).trans (hu 3 _ rfl)
        have HX : Hid (sumE (es.take (k + 1)) = wrap64 (sumE (es.take k) + x.v)) := sumE_take hx
        generalize sumE (es.take k) = s at *
        clear hu hc d3 hx hok
        go_wp2_with fail
        go_roundw
        case rel => exact ⟨k + 1, by omega, by go_num, by rw [HX.out] <;> rfl, hb.alloc hsz _⟩
        case measure => simp [intOf]; omega
      · obtain rfl : k = es.length := by omega
        rw [List.take_of_length_le (Nat.le_refl _)]
        go_wp2_with fail
        go_ret
        exact ⟨ret_int HR.out.symm, hb⟩
end Go.Proofs.YtmphgnjodangcaaGreat

namespace Go.Proofs.YtmphgnjodangcaaGreat
open Go.RowKit
set_option maxRecDepth 100000

end Go.Proofs.YtmphgnjodangcaaGreat

namespace Go.Proofs.YtmphgnjodangcaaGreat
open Go.RowKit
set_option maxRecDepth 100000

theorem guardSpan : Tryz.prog.eqGuardType Tryz.prog.depth 47 = false := by kernel_rfl
theorem guardEntry : Tryz.prog.eqGuardType Tryz.prog.depth 142 = false := by kernel_rfl
theorem guardDot : Tryz.prog.eqGuardType Tryz.prog.depth 54 = false := by kernel_rfl
theorem neqSpan (x y : Sp) (w : World) : (binOp .neq 47 (.agg #[.int .i64 x.dc, .int .i64 x.fr, .int .i64 x.hi]) (.agg #[.int .i64 y.dc, .int .i64 y.fr, .int .i64 y.hi])).run Tryz.prog w = .ok (.bool (!decide (x = y))) w := by
  have u3 := Tryz.underlying3
  have u2 := Tryz.underlying2
  have hS : Tryz.prog.underlying 47 = some (.struct (Tryz.prog.fieldsOf 47)) := by kernel_rfl
  have hp : Tryz.prog.stoodInHeld 47 = false := by kernel_rfl
  rw [run_neq_struct, show (10000 : Nat) = 9999 + 1 from rfl, run_equalIn_agg w 9999 47 _ _ hS hp]
  simp only [Program.fieldsOf, Tryz.underlying47]
  go_simp
  obtain ⟨a, b, c⟩ := x; obtain ⟨d, e, f⟩ := y
  by_cases h1 : a = d <;> by_cases h2 : b = e <;> by_cases h3 : c = f <;> simp [h1, h2, h3]
theorem eqlDot (x y : Dt) (w : World) : (binOp .eql 54 (.agg #[.int .i64 x.dc, .int .i64 x.n]) (.agg #[.int .i64 y.dc, .int .i64 y.n])).run Tryz.prog w = .ok (.bool (decide (x = y))) w := by
  have u3 := Tryz.underlying3
  have u2 := Tryz.underlying2
  have hS : Tryz.prog.underlying 54 = some (.struct (Tryz.prog.fieldsOf 54)) := by kernel_rfl
  have hp : Tryz.prog.stoodInHeld 54 = false := by kernel_rfl
  rw [run_eql_struct, show (10000 : Nat) = 9999 + 1 from rfl, run_equalIn_agg w 9999 54 _ _ hS hp]
  simp only [Program.fieldsOf, Tryz.underlying54]
  go_simp
  obtain ⟨a, b⟩ := x; obtain ⟨d, e⟩ := y
  by_cases h1 : a = d <;> by_cases h2 : b = e <;> simp [h1, h2]
theorem bytes_inj (a b : ByteArray) : a.toList = b.toList ↔ a = b := by
  rw [ByteArray.toList_eq, ByteArray.toList_eq]
  obtain ⟨⟨x⟩⟩ := a; obtain ⟨⟨y⟩⟩ := b
  simp
theorem neqEntry (x y : En) (w : World) : (binOp .neq 142 (.agg #[.int .i64 x.dc, .int .i64 x.n, .string x.s, .int .i64 x.v]) (.agg #[.int .i64 y.dc, .int .i64 y.n, .string y.s, .int .i64 y.v])).run Tryz.prog w = .ok (.bool (!decide (x = y))) w := by
  have u3 := Tryz.underlying3
  have u2 := Tryz.underlying2
  have u9 := Tryz.underlying9
  have u27 := Tryz.underlying54
  have hS : Tryz.prog.underlying 142 = some (.struct (Tryz.prog.fieldsOf 142)) := by kernel_rfl
  have hp : Tryz.prog.stoodInHeld 142 = false := by kernel_rfl
  have hS2 : Tryz.prog.underlying 54 = some (.struct (Tryz.prog.fieldsOf 54)) := by kernel_rfl
  have hp2 : Tryz.prog.stoodInHeld 54 = false := by kernel_rfl
  rw [run_neq_struct, show (10000 : Nat) = 9999 + 1 from rfl, run_equalIn_agg w 9999 142 _ _ hS hp]
  simp only [Program.fieldsOf, Tryz.underlying142]
  go_simp
  have hq := fun (a b c d : Int) (w : World) => run_equalIn_agg (P := Tryz.prog) w 9998 54 #[.int .i64 a, .int .i64 b] #[.int .i64 c, .int .i64 d] hS2 hp2
  try simp only [hq, Program.fieldsOf, u27]
  go_simp
  obtain ⟨a, b, s, c⟩ := x; obtain ⟨d, e, u, f⟩ := y
  by_cases h1 : a = d <;> by_cases h2 : b = e <;> by_cases h3 : c = f <;> by_cases h4 : s = u <;> simp [h1, h2, h3, h4, bytes_inj]

/-- A loop that holds two lists against one another has come so far. -/
theorem take_eq_succ {α : Type} {xs ys : List α} {k : Nat} {x y : α} (hx : xs[k]? = some x) (hy : ys[k]? = some y) (h : xs.take k = ys.take k) : xs.take (k + 1) = ys.take (k + 1) ↔ x = y := by
  rw [List.take_add_one, List.take_add_one, hx, hy, h]
  simp

set_option maxHeartbeats 1000000 in
theorem r07same_any (a b : List Sp) (va vb : Value) (w : World) (B : Nat) (ha : SlP w B 3 SpE va a) (hb : SlP w B 3 SpE vb b) :
    Calls Tryz.prog 93 #[va, vb] w fun e w' => e = .returned (.bool (decide (a = b))) ∧ ∃ n, w' = w.drewN n := by
  obtain ⟨A1, n1, rfl, b1, b2, b3⟩ := ha
  obtain ⟨A2, n2, rfl, c1, c2, c3⟩ := hb
  unfold Big at b2 c2
  by_cases hl : a.length = b.length
  · have hl' : ((a.length : Int) != (b.length : Int)) = false := by simp [hl]
    have HL := hid hl
    clear hl
    have gg := guardSpan
    have nn := neqSpan
    go_enter Tryz.func93, Tryz.ntmps93
    go_wp2_with fail
    go_loopw [13] (fun i wr => ∃ k : Nat, k ≤ a.length ∧ i = .int .i64 k ∧ Hid (a.take k = b.take k) ∧ ∃ n, wr = w.drewN n) (fun i _ => a.length - (intOf i).toNat)
    case atStart => exact ⟨0, Nat.zero_le _, rfl, rfl, 0, rfl⟩
    case round =>
      obtain ⟨k, hk, rfl, hrel, q, rfl⟩ := hrel
      by_cases hlt : k < a.length
      · have hlt2 : k < b.length := by have := HL.out; omega
        obtain ⟨x, hx⟩ : ∃ x, a[k]? = some x := ⟨_, List.getElem?_eq_getElem hlt⟩
        obtain ⟨y, hy⟩ : ∃ y, b[k]? = some y := ⟨_, List.getElem?_eq_getElem hlt2⟩
        obtain ⟨ba, oa, rfl, hbA, hc⟩ := b3 (by rintro rfl; simp at hlt)
        obtain ⟨bb, ob, rfl, hbB, hd⟩ := c3 (by rintro rfl; simp at hlt2)
        obtain ⟨cs, ⟨rfl, hok⟩, _, hu⟩ := hc k _ hx
        obtain ⟨ds, ⟨rfl, hok2⟩, _, hv⟩ := hd k _ hy
        have e0 : w.cell? ⟨ba, oa + k * 3, none⟩ = some (.int .i64 x.dc) := hu 0 _ rfl
        have e1 : w.cell? ⟨ba, oa + k * 3 + 1, none⟩ = some (.int .i64 x.fr) := hu 1 _ rfl
        have e2 : w.cell? ⟨ba, oa + k * 3 + 2, none⟩ = some (.int .i64 x.hi) := hu 2 _ rfl
        have g0 : w.cell? ⟨bb, ob + k * 3, none⟩ = some (.int .i64 y.dc) := hv 0 _ rfl
        have g1 : w.cell? ⟨bb, ob + k * 3 + 1, none⟩ = some (.int .i64 y.fr) := hv 1 _ rfl
        have g2 : w.cell? ⟨bb, ob + k * 3 + 2, none⟩ = some (.int .i64 y.hi) := hv 2 _ rfl
        have HT := hid (take_eq_succ hx hy hrel.out)
        have HXY : Hid (a = b → x = y) := fun e => by subst e; rw [hx] at hy; exact Option.some.inj hy
        have hi1 : ((k : Int)) < (a.length : Int) := by omega
        have hi2 : ((k : Int)) < (b.length : Int) := by omega
        clear hu hv hc hd b3 c3 hx hy hok hok2
        rcases hxy : decide (x = y)
        · have hne : x ≠ y := by simpa using hxy
          go_wp2_with fail
          go_quiet (fail)
          go_wp2_with fail
          go_ret
          exact ⟨ret_bool (by simpa using fun e => hne (HXY.out e)), q + nq, by first | rfl | exact World.drewN_drewN _ _ _⟩
        · have hE := hid (of_decide_eq_true hxy)
          go_wp2_with fail
          go_quiet (fail)
          go_wp2_with fail
          go_roundw
          case rel => exact ⟨k + 1, by omega, by go_num, HT.out.2 hE.out, q + nq, by first | rfl | exact World.drewN_drewN _ _ _⟩
          case measure => simp [intOf]; omega
      · obtain rfl : k = a.length := by omega
        have HR := hid hrel.out
        clear hrel
        go_wp2_with fail
        go_ret
        refine ⟨ret_bool ?_, q, rfl⟩
        have h1 := HR.out
        rw [List.take_of_length_le (Nat.le_refl _), List.take_of_length_le (by rw [HL.out]; exact Nat.le_refl _)] at h1
        simp [h1]
  · have hl' : ((a.length : Int) != (b.length : Int)) = true := by simp; omega
    have HL := hid hl
    clear hl
    go_enter Tryz.func93, Tryz.ntmps93
    go_wp2_with fail
    go_ret
    refine ⟨ret_bool ?_, 0, rfl⟩
    have : a ≠ b := fun e => HL.out (by rw [e])
    simp [this]
set_option maxHeartbeats 1000000 in
theorem r10alike_any (a b : List ByteArray) (va vb : Value) (w : World) (B : Nat) (ha : SlP w B 1 StE va a) (hb : SlP w B 1 StE vb b) :
    Calls Tryz.prog 52 #[va, vb] w fun e w' => e = .returned (.bool (decide (a = b))) ∧ ∃ n, w' = w.drewN n := by
  obtain ⟨A1, n1, rfl, b1, b2, b3⟩ := ha
  obtain ⟨A2, n2, rfl, c1, c2, c3⟩ := hb
  unfold Big at b2 c2
  by_cases hl : a.length = b.length
  · have hl' : ((a.length : Int) != (b.length : Int)) = false := by simp [hl]
    have HL := hid hl
    clear hl
    go_enter Tryz.func52, Tryz.ntmps52
    go_wp2_with fail
    go_loopw [13] (fun i wr => ∃ k : Nat, k ≤ a.length ∧ i = .int .i64 k ∧ Hid (a.take k = b.take k) ∧ ∃ n, wr = w.drewN n) (fun i _ => a.length - (intOf i).toNat)
    case atStart => exact ⟨0, Nat.zero_le _, rfl, rfl, 0, rfl⟩
    case round =>
      obtain ⟨k, hk, rfl, hrel, q, rfl⟩ := hrel
      by_cases hlt : k < a.length
      · have hlt2 : k < b.length := by have := HL.out; omega
        obtain ⟨x, hx⟩ : ∃ x, a[k]? = some x := ⟨_, List.getElem?_eq_getElem hlt⟩
        obtain ⟨y, hy⟩ : ∃ y, b[k]? = some y := ⟨_, List.getElem?_eq_getElem hlt2⟩
        obtain ⟨ba, oa, rfl, hbA, hc⟩ := b3 (by rintro rfl; simp at hlt)
        obtain ⟨bb, ob, rfl, hbB, hd⟩ := c3 (by rintro rfl; simp at hlt2)
        obtain ⟨cs, ⟨rfl, hok⟩, _, hu⟩ := hc k _ hx
        obtain ⟨ds, ⟨rfl, hok2⟩, _, hv⟩ := hd k _ hy
        have e0 : w.cell? ⟨ba, oa + k, none⟩ = some (.string x) := by simpa using hu 0 _ rfl
        have g0 : w.cell? ⟨bb, ob + k, none⟩ = some (.string y) := by simpa using hv 0 _ rfl
        have HT := hid (take_eq_succ hx hy hrel.out)
        have HXY : Hid (a = b → x = y) := fun e => by subst e; rw [hx] at hy; exact Option.some.inj hy
        have hi1 : ((k : Int)) < (a.length : Int) := by omega
        have hi2 : ((k : Int)) < (b.length : Int) := by omega
        clear hu hv hc hd b3 c3 hx hy hok hok2
        rcases hxy : (x.toList == y.toList)
        · have hne : x ≠ y := fun e => by rw [e] at hxy; simp at hxy
          have hxy2 : (x.toList != y.toList) = true := by simp [bne, hxy]
          go_wp2_with fail
          go_quiet (fail)
          go_wp2_with fail
          go_ret
          exact ⟨ret_bool (by simpa using fun e => hne (HXY.out e)), q + nq, by first | rfl | exact World.drewN_drewN _ _ _⟩
        · have hE := hid ((bytes_inj x y).1 (by simpa using hxy))
          have hxy2 : (x.toList != y.toList) = false := by simp [bne, hxy]
          go_wp2_with fail
          go_quiet (fail)
          go_wp2_with fail
          go_roundw
          case rel => exact ⟨k + 1, by omega, by go_num, HT.out.2 hE.out, q + nq, by first | rfl | exact World.drewN_drewN _ _ _⟩
          case measure => simp [intOf]; omega
      · obtain rfl : k = a.length := by omega
        have HR := hid hrel.out
        clear hrel
        go_wp2_with fail
        go_ret
        refine ⟨ret_bool ?_, q, rfl⟩
        have h1 := HR.out
        rw [List.take_of_length_le (Nat.le_refl _), List.take_of_length_le (by rw [HL.out]; exact Nat.le_refl _)] at h1
        simp [h1]
  · have hl' : ((a.length : Int) != (b.length : Int)) = true := by simp; omega
    have HL := hid hl
    clear hl
    go_enter Tryz.func52, Tryz.ntmps52
    go_wp2_with fail
    go_ret
    refine ⟨ret_bool ?_, 0, rfl⟩
    have : a ≠ b := fun e => HL.out (by rw [e])
    simp [this]
end Go.Proofs.YtmphgnjodangcaaGreat

namespace Go.Proofs.YtmphgnjodangcaaGreat
open Go.RowKit
set_option maxRecDepth 100000

def underF (key : ByteArray) (x : Lf) : Option Lf := match x.1 with | [] => none | q :: qs => if q = key then some (qs, x.2) else none
def underL (l : List Lf) (key : ByteArray) : List Lf := l.filterMap (underF key)
end Go.Proofs.YtmphgnjodangcaaGreat

namespace Go.Proofs.YtmphgnjodangcaaGreat
open Go.RowKit
set_option maxRecDepth 100000
open Classical in
noncomputable def trEq (s t : Tr) : Bool := decide (s = t)
theorem trEq_iff {s t : Tr} : trEq s t = true ↔ s = t := by simp [trEq]
theorem trEq_no {s t : Tr} : trEq s t = false ↔ s ≠ t := by simp [trEq]

set_option maxHeartbeats 4000000 in
theorem r08same_any (s : Tr) : ∀ (t : Tr) (w : World) (ve vk ue uk : Value), s.rd w w.heap.size ve vk → t.rd w w.heap.size ue uk →
    Calls Tryz.prog 114 #[.agg #[ve, vk], .agg #[ue, uk]] w fun e w' => e = .returned (.bool (trEq s t)) ∧ Below w.heap.size w w' := by
  induction s using Tr.ind with
  | h es ks ih =>
  rintro ⟨es', ks'⟩ w ve vk ue uk h h'
  rw [rd_iff] at h h'
  obtain ⟨⟨A1, n1, rfl, b1, b2, b3⟩, ⟨A2, n2, rfl, c1, c2, c3⟩⟩ := h
  obtain ⟨⟨A3, n3, rfl, d1, d2, d3⟩, ⟨A4, n4, rfl, f1, f2, f3⟩⟩ := h'
  unfold Big at b2 c2 d2 f2
  by_cases hl : es.length = es'.length
  case neg =>
    have hl' : ((es.length : Int) != (es'.length : Int)) = true := by simp; omega
    have HL := hid hl
    clear hl
    go_enter Tryz.func114, Tryz.ntmps114
    go_wp2_with fail
    go_ret
    refine ⟨ret_bool ?_, by go_grown⟩
    rw [eq_comm, trEq_no]
    rintro e; cases e; exact HL.out rfl
  by_cases hm : ks.length = ks'.length
  case neg =>
    have hl' : ((es.length : Int) != (es'.length : Int)) = false := by simp [hl]
    have hm' : ((ks.length : Int) != (ks'.length : Int)) = true := by simp; omega
    have HL := hid hm
    clear hl hm
    go_enter Tryz.func114, Tryz.ntmps114
    go_wp2_with fail
    go_ret
    refine ⟨ret_bool ?_, by go_grown⟩
    rw [eq_comm, trEq_no]
    rintro e; cases e; exact HL.out rfl
  have hl' : ((es.length : Int) != (es'.length : Int)) = false := by simp [hl]
  have hm' : ((ks.length : Int) != (ks'.length : Int)) = false := by simp [hm]
  have HL := hid hl
  have HM := hid hm
  clear hl hm
  go_enter Tryz.func114, Tryz.ntmps114
  go_wp2_with fail
  go_loopw [26] (fun i wr => ∃ k : Nat, k ≤ es.length ∧ i = .int .i64 k ∧ Hid (es.take k = es'.take k) ∧
      Below (w.heap.size + 1 + 1) ((w.alloc (.cells #[.slice A1 es.length n1, .slice A2 ks.length n2] 27)).alloc (.cells #[.slice A3 es'.length n3, .slice A4 ks'.length n4] 27)) wr) (fun i _ => es.length - (intOf i).toNat)
  case atStart => exact ⟨0, Nat.zero_le _, rfl, rfl, Below.refl _ _⟩
  case round =>
    obtain ⟨k, hk, rfl, hrel, hb⟩ := hrel
    have hsz := hb.size
    simp only [World.size_alloc] at hsz
    have hB0 : Below w.heap.size w wr := (((Below.refl _ w).alloc (Nat.le_refl _) _).alloc (by simp) _).trans (hb.mono (by omega))
    have hs0 : wr.cell? ⟨w.heap.size, 0, none⟩ = some (.slice A1 es.length n1) := by rw [hb.cell (p := ⟨w.heap.size, 0, none⟩) (by simp; omega)]; rw [World.cell?_alloc_past _ _ _ (by simp), World.cell?_alloc_new]; rfl
    have hs1 : wr.cell? ⟨w.heap.size, 1, none⟩ = some (.slice A2 ks.length n2) := by rw [hb.cell (p := ⟨w.heap.size, 1, none⟩) (by simp; omega)]; rw [World.cell?_alloc_past _ _ _ (by simp), World.cell?_alloc_new]; rfl
    have ht0 : wr.cell? ⟨w.heap.size + 1, 0, none⟩ = some (.slice A3 es'.length n3) := by rw [hb.cell (p := ⟨w.heap.size + 1, 0, none⟩) (by simp), World.cell?_alloc_at _ _ _ _ (by simp)]; rfl
    have ht1 : wr.cell? ⟨w.heap.size + 1, 1, none⟩ = some (.slice A4 ks'.length n4) := by rw [hb.cell (p := ⟨w.heap.size + 1, 1, none⟩) (by simp), World.cell?_alloc_at _ _ _ _ (by simp)]; rfl
    by_cases hlt : k < es.length
    · have hlt2 : k < es'.length := by have := HL.out; omega
      obtain ⟨x, hx⟩ : ∃ x, es[k]? = some x := ⟨_, List.getElem?_eq_getElem hlt⟩
      obtain ⟨y, hy⟩ : ∃ y, es'[k]? = some y := ⟨_, List.getElem?_eq_getElem hlt2⟩
      obtain ⟨ba, oa, rfl, hbA, hc⟩ := b3 (by rintro rfl; simp at hlt)
      obtain ⟨bb, ob, rfl, hbB, hd⟩ := d3 (by rintro rfl; simp at hlt2)
      obtain ⟨cs, ⟨rfl, hok⟩, _, hu⟩ := hc k _ hx
      obtain ⟨ds, ⟨rfl, hok2⟩, _, hv⟩ := hd k _ hy
      have q0 := far_cell (B := wr.heap.size) ((hB0.cell hbA).trans (hu 0 _ rfl)) (by omega)
      have q1 := far_cell (B := wr.heap.size) ((hB0.cell hbA).trans (hu 1 _ rfl)) (by omega)
      have q2 := far_cell (B := wr.heap.size) ((hB0.cell hbA).trans (hu 2 _ rfl)) (by omega)
      have q3 := far_cell (B := wr.heap.size) ((hB0.cell hbA).trans (hu 3 _ rfl)) (by omega)
      have p0 := far_cell (B := wr.heap.size) ((hB0.cell hbB).trans (hv 0 _ rfl)) (by omega)
      have p1 := far_cell (B := wr.heap.size) ((hB0.cell hbB).trans (hv 1 _ rfl)) (by omega)
      have p2 := far_cell (B := wr.heap.size) ((hB0.cell hbB).trans (hv 2 _ rfl)) (by omega)
      have p3 := far_cell (B := wr.heap.size) ((hB0.cell hbB).trans (hv 3 _ rfl)) (by omega)
      simp only [Nat.add_zero] at q0 p0
      have r0 := far_cell (B := wr.heap.size) hs0 (by omega)
      have r1 := far_cell (B := wr.heap.size) ht0 (by omega)
      have HT := hid (take_eq_succ hx hy hrel.out)
      have HXY : Hid (es = es' → x = y) := fun e => by subst e; rw [hx] at hy; exact Option.some.inj hy
      have gg := guardEntry
      have nn := neqEntry x y
      have hi1 : ((k : Int)) < (es.length : Int) := by omega
      have hi2 : ((k : Int)) < (es'.length : Int) := by omega
      clear hu hv hc hd b3 d3 hx hy hok hok2
      rcases hxy : decide (x = y)
      · have hne : x ≠ y := by simpa using hxy
        go_upto_region 6 with (fail)
        refine wp_region_far wr.heap.size (by kernel_rfl) (by kernel_rfl) ?_
        repeat (go_big_quiet_step (fail))
        refine wpQuiet_nil ?_
        intro wq hbq
        go_wp2_with fail
        go_ret
        refine ⟨ret_bool ?_, hB0.trans (hbq.mono (by omega))⟩
        rw [eq_comm, trEq_no]
        rintro e; cases e; exact hne (HXY.out rfl)
      · have hE := hid (of_decide_eq_true hxy)
        go_upto_region 6 with (fail)
        refine wp_region_far wr.heap.size (by kernel_rfl) (by kernel_rfl) ?_
        repeat (go_big_quiet_step (fail))
        refine wpQuiet_nil ?_
        intro wq hbq
        go_wp2_with fail
        go_roundw
        case rel => exact ⟨k + 1, by omega, by go_num, HT.out.2 hE.out, hb.trans (hbq.mono (by omega))⟩
        case measure => simp [intOf]; omega
    · obtain rfl : k = es.length := by omega
      have HE : Hid (es = es') := by
        have h1 := hrel.out
        rw [List.take_of_length_le (Nat.le_refl _), List.take_of_length_le (by rw [HL.out]; exact Nat.le_refl _)] at h1
        exact h1
      clear hrel hs0 ht0 hB0 b3 d3 hlt
      go_wp2_with fail
      clear hs1 ht1 hsz
      obtain ⟨wo, rfl⟩ : ∃ wo : World, wo = wr := ⟨_, rfl⟩
      go_loopw [44] (fun i wr => ∃ k : Nat, k ≤ ks.length ∧ i = .int .i64 k ∧ Hid (ks.take k = ks'.take k) ∧
        Below (w.heap.size + 1 + 1) ((w.alloc (.cells #[.slice A1 es.length n1, .slice A2 ks.length n2] 27)).alloc (.cells #[.slice A3 es'.length n3, .slice A4 ks'.length n4] 27)) wr) (fun i _ => ks.length - (intOf i).toNat)
      case atStart => exact ⟨0, Nat.zero_le _, rfl, rfl, hb⟩
      case round =>
        clear hb
        obtain ⟨k, hk, rfl, hrel, hb⟩ := hrel
        have hsz := hb.size
        simp only [World.size_alloc] at hsz
        have hB0 : Below w.heap.size w wr := (((Below.refl _ w).alloc (Nat.le_refl _) _).alloc (by simp) _).trans (hb.mono (by omega))
        by_cases hlt : k < ks.length
        · have hlt2 : k < ks'.length := by have := HM.out; omega
          obtain ⟨⟨key, s1⟩, hx⟩ : ∃ x, ks[k]? = some x := ⟨_, List.getElem?_eq_getElem hlt⟩
          obtain ⟨⟨key', t1⟩, hy⟩ : ∃ y, ks'[k]? = some y := ⟨_, List.getElem?_eq_getElem hlt2⟩
          obtain ⟨ba, oa, rfl, hbA, hc⟩ := c3 (by rintro rfl; simp at hlt)
          obtain ⟨bb, ob, rfl, hbB, hd⟩ := f3 (by rintro rfl; simp at hlt2)
          obtain ⟨cs, ⟨v1, v2, rfl, _, hrs⟩, _, hu⟩ := hc k _ hx
          obtain ⟨ds, ⟨u1, u2, rfl, _, hrt⟩, _, hv⟩ := hd k _ hy
          have hs1 : wr.cell? ⟨w.heap.size, 1, none⟩ = some (.slice (some ⟨ba, oa, none⟩) ks.length n2) := by rw [hb.cell (p := ⟨w.heap.size, 1, none⟩) (by simp; omega)]; rw [World.cell?_alloc_past _ _ _ (by simp), World.cell?_alloc_new]; rfl
          have ht1 : wr.cell? ⟨w.heap.size + 1, 1, none⟩ = some (.slice (some ⟨bb, ob, none⟩) ks'.length n4) := by rw [hb.cell (p := ⟨w.heap.size + 1, 1, none⟩) (by simp), World.cell?_alloc_at _ _ _ _ (by simp)]; rfl
          have q0 := far_cell (B := wr.heap.size) ((hB0.cell hbA).trans (hu 0 _ rfl)) (by omega)
          have q1 := far_cell (B := wr.heap.size) ((hB0.cell hbA).trans (hu 1 _ rfl)) (by omega)
          have q2 := far_cell (B := wr.heap.size) ((hB0.cell hbA).trans (hu 2 _ rfl)) (by omega)
          have p0 := far_cell (B := wr.heap.size) ((hB0.cell hbB).trans (hv 0 _ rfl)) (by omega)
          have p1 := far_cell (B := wr.heap.size) ((hB0.cell hbB).trans (hv 1 _ rfl)) (by omega)
          have p2 := far_cell (B := wr.heap.size) ((hB0.cell hbB).trans (hv 2 _ rfl)) (by omega)
          simp only [Nat.add_zero] at q0 p0
          have r0 := far_cell (B := wr.heap.size) hs1 (by omega)
          have r1 := far_cell (B := wr.heap.size) ht1 (by omega)
          have HT := hid (take_eq_succ hx hy hrel.out)
          have HXY : Hid (ks = ks' → (key, s1) = (key', t1)) := fun e => by subst e; rw [hx] at hy; exact Option.some.inj hy
          have hmem : (key, s1) ∈ ks := List.mem_of_getElem? hx
          have HRS : Hid (∀ w', Below wr.heap.size wr w' → s1.rd w' w'.heap.size v1 v2) := fun w' hb' => rd_below (hB0.trans (hb'.mono (by omega))) (by have := hb'.size; omega) _ _ _ hrs
          have HRT : Hid (∀ w', Below wr.heap.size wr w' → t1.rd w' w'.heap.size u1 u2) := fun w' hb' => rd_below (hB0.trans (hb'.mono (by omega))) (by have := hb'.size; omega) _ _ _ hrt
          have hi1 : ((k : Int)) < (ks.length : Int) := by omega
          have hi2 : ((k : Int)) < (ks'.length : Int) := by omega
          clear hu hv hc hd c3 f3 hx hy hs1 ht1 hrs hrt
          rcases hxy : (key.toList == key'.toList)
          · have hne : key ≠ key' := fun e => by rw [e] at hxy; simp at hxy
            have hxy2 : (key.toList != key'.toList) = true := by simp [bne, hxy]
            go_upto_region 12 with (fail)
            refine wp_region_far wr.heap.size (by kernel_rfl) (by kernel_rfl) ?_
            repeat (go_big_quiet_step (fail))
            refine wpQuiet_nil ?_
            intro wq hbq
            go_wp2_with fail
            go_ret
            refine ⟨ret_bool ?_, hB0.trans (hbq.mono (by omega))⟩
            rw [eq_comm, trEq_no]
            rintro e; cases e; exact hne (Prod.mk.inj (HXY.out rfl)).1
          have hE := hid ((bytes_inj key key').1 (by simpa using hxy))
          have hxy2 : (key.toList != key'.toList) = false := by simp [bne, hxy]
          rcases hst : trEq s1 t1
          · have hne := trEq_no.1 hst
            go_upto_region 12 with (fail)
            refine wp_region_far wr.heap.size (by kernel_rfl) (by kernel_rfl) ?_
            repeat (go_big_quiet_step ((go_at_call 114; exact Calls.far_all (Nat.le_refl _) (fun w' hb' => ih key s1 hmem t1 w' _ _ _ _ (HRS.out w' hb') (HRT.out w' hb')))))
            refine wpQuiet_nil ?_
            intro wq hbq
            go_wp2_with fail
            go_ret
            refine ⟨ret_bool ?_, hB0.trans (hbq.mono (by omega))⟩
            rw [eq_comm, trEq_no]
            rintro e; cases e; exact hne (Prod.mk.inj (HXY.out rfl)).2
          · have hF := hid (trEq_iff.1 hst)
            go_upto_region 12 with (fail)
            refine wp_region_far wr.heap.size (by kernel_rfl) (by kernel_rfl) ?_
            repeat (go_big_quiet_step ((go_at_call 114; exact Calls.far_all (Nat.le_refl _) (fun w' hb' => ih key s1 hmem t1 w' _ _ _ _ (HRS.out w' hb') (HRT.out w' hb')))))
            refine wpQuiet_nil ?_
            intro wq hbq
            go_wp2_with fail
            go_roundw
            case rel => exact ⟨k + 1, by omega, by go_num, HT.out.2 (by rw [hE.out, hF.out]), hb.trans (hbq.mono (by omega))⟩
            case measure => simp [intOf]; omega
        · obtain rfl : k = ks.length := by omega
          have HK : Hid (ks = ks') := by
            have h1 := hrel.out
            rw [List.take_of_length_le (Nat.le_refl _), List.take_of_length_le (by rw [HM.out]; exact Nat.le_refl _)] at h1
            exact h1
          clear hrel
          go_wp2_with fail
          go_ret
          refine ⟨ret_bool ?_, hB0⟩
          rw [eq_comm, trEq_iff, HE.out, HK.out]
end Go.Proofs.YtmphgnjodangcaaGreat

namespace Go.Proofs.YtmphgnjodangcaaGreat
open Go.RowKit
set_option maxRecDepth 100000
set_option maxHeartbeats 2000000 in
theorem r09same_any (s t : Tr) (a b : List Sp) (ve vk ue uk va vb : Value) (w : World) (h : s.rd w w.heap.size ve vk) (h' : t.rd w w.heap.size ue uk) (ha : SlP w w.heap.size 3 SpE va a) (hb : SlP w w.heap.size 3 SpE vb b) :
    Calls Tryz.prog 31 #[.agg #[ve, vk, va], .agg #[ue, uk, vb]] w fun e w' => e = .returned (.bool (trEq s t && decide (a = b))) ∧ Below w.heap.size w w' := by
  obtain ⟨A1, n1, A2, n2, rfl, rfl⟩ := rd_shape h
  obtain ⟨A3, n3, A4, n4, rfl, rfl⟩ := rd_shape h'
  have ha0 := ha
  have hb0 := hb
  obtain ⟨A5, n5, rfl, _⟩ := ha
  obtain ⟨A6, n6, rfl, _⟩ := hb
  have hB : Below w.heap.size w ((w.alloc (.cells #[.slice A1 s.es.length n1, .slice A2 s.ks.length n2, .slice A5 a.length n5] 31)).alloc (.cells #[.slice A3 t.es.length n3, .slice A4 t.ks.length n4, .slice A6 b.length n6] 31)) := ((Below.refl _ w).alloc (Nat.le_refl _) _).alloc (by simp) _
  go_enter Tryz.func31, Tryz.ntmps31
  rcases hst : trEq s t
  · go_wp2_with (go_at_call 114; refine (r08same_any s t _ _ _ _ _ (rd_below hB hB.size _ _ _ h) (rd_below hB hB.size _ _ _ h')).mono ?_; rw [hst]; rintro e w1 ⟨rfl, hb1⟩)
    go_ret
    exact ⟨ret_bool (by simp), hB.trans (hb1.mono hB.size)⟩
  · go_wp2_with (first | (go_at_call 114; go_loud ((refine (r08same_any s t _ _ _ _ _ (rd_below hB hB.size _ _ _ h) (rd_below hB hB.size _ _ _ h')).mono ?_); rw [hst]; rintro e w1 ⟨rfl, hb1⟩; have hc0 : w1.cell? ⟨w.heap.size, 2, none⟩ = some (.slice A5 a.length n5) := (by rw [hb1.cell (p := ⟨w.heap.size, 2, none⟩) (by simp; omega), World.cell?_alloc_past _ _ _ (by simp), World.cell?_alloc_new]; rfl); have hc1 : w1.cell? ⟨w.heap.size + 1, 2, none⟩ = some (.slice A6 b.length n6) := (by rw [hb1.cell (p := ⟨w.heap.size + 1, 2, none⟩) (by simp), World.cell?_alloc_at _ _ _ _ (by simp)]; rfl); have hB1 := hid (hB.trans (hb1.mono hB.size)))) | (go_at_call 93; go_loud ((refine (r07same_any a b _ _ w1 _ (ha0.imp hB1.out hB1.out.size (fun _ _ _ h => h)) (hb0.imp hB1.out hB1.out.size (fun _ _ _ h => h))).mono ?_); rintro e w2 ⟨rfl, q, rfl⟩)))
    go_ret
    exact ⟨ret_bool (by simp), hB1.out.trans ⟨rfl, rfl, rfl, Nat.le_refl _, fun _ _ => rfl⟩⟩
end Go.Proofs.YtmphgnjodangcaaGreat

namespace Go.Proofs.YtmphgnjodangcaaGreat
open Go.RowKit
set_option maxRecDepth 100000

def ltS (a b : ByteArray) : Bool := Op.bytesLess a.toList b.toList
theorem ltS_irrefl (a : ByteArray) : ltS a a = false := by
  unfold ltS; rw [bytesLess_eq]; simp [List.lt_irrefl]
theorem ltS_trans {a b c : ByteArray} (h : ltS a b = true) (k : ltS b c = true) : ltS a c = true := by
  unfold ltS at *; rw [bytesLess_eq] at *
  simp only [decide_eq_true_eq] at *
  exact List.lt_trans h k
theorem ltS_total {a b : ByteArray} (h : ltS a b = false) (k : ltS b a = false) : a = b := by
  unfold ltS at *; rw [bytesLess_eq] at *
  simp only [decide_eq_false_iff_not, List.not_lt] at *
  exact (bytes_inj a b).1 (List.le_antisymm k h)
theorem ltS_gt (a b : ByteArray) : ltS a b = (!Op.bytesLess b.toList a.toList && !(b.toList == a.toList)) := by
  unfold ltS
  rw [bytesLess_eq, bytesLess_eq, Bool.eq_iff_iff]
  simp only [decide_eq_true_eq, Bool.and_eq_true, Bool.not_eq_true', decide_eq_false_iff_not, beq_eq_false_iff_ne, List.not_lt]
  constructor
  · intro h; exact ⟨List.le_of_lt h, fun e => by rw [e] at h; exact List.lt_irrefl _ h⟩
  · rintro ⟨h, k⟩
    rcases Decidable.em (a.toList < b.toList) with h' | h'
    · exact h'
    · exact absurd (List.le_antisymm (List.not_lt.1 h') h) k
theorem lt_irrefl' (a : Dt) : a.lt a = false := by simp [Dt.lt]
theorem lt_trans' {a b c : Dt} (h : a.lt b = true) (k : b.lt c = true) : a.lt c = true := by
  unfold Dt.lt at *
  split at h <;> split at k <;> split <;> simp at * <;> omega

/-- May an entry be the next one? -/
def selC (last : Option Dt) (b : Option En) (x : Lf) : Bool :=
  x.1.isEmpty && okP last x.2.dot && (match b with | none => true | some c => x.2.dot.lt c.dot)
def selS (last : Option Dt) (b : Option En) (x : Lf) : Option En := if selC last b x then some x.2 else b
def bestE (l : List Lf) (last : Option Dt) : Option En := l.foldl (selS last) none
def entsGo (l : List Lf) : Nat → List En → List En
  | 0, es => es
  | n + 1, es => match bestE l (es.getLast?.map En.dot) with | none => es | some e => entsGo l n (es ++ [e])
def selEnts (l : List Lf) : List En := entsGo l (l.length + 1) []

def keyC (last b : ByteArray) (x : Lf) : Bool := match x.1 with | [] => false | q :: _ => ltS last q && (decide (b = ByteArray.empty) || ltS q b)
def keyS (last b : ByteArray) (x : Lf) : ByteArray := if keyC last b x then x.1.headD ByteArray.empty else b
def bestK (l : List Lf) (last : ByteArray) : ByteArray := l.foldl (keyS last) ByteArray.empty
def kidsGo (f : List Lf → Tr) (l : List Lf) : Nat → ByteArray → List Kd
  | 0, _ => []
  | n + 1, last => if bestK l last = ByteArray.empty then [] else (bestK l last, f (underL l (bestK l last))) :: kidsGo f l n (bestK l last)
def buildT : Nat → List Lf → Tr
  | 0, l => .mk (selEnts l) (kidsGo (fun _ => .mk [] []) l (l.length + 1) ByteArray.empty)
  | d + 1, l => .mk (selEnts l) (kidsGo (buildT d) l (l.length + 1) ByteArray.empty)

/-- How many leaves are still ahead. -/
def ahE (l : List Lf) (last : Option Dt) : Nat := (l.filter fun x => okP last x.2.dot).length
def ahK (l : List Lf) (last : ByteArray) : Nat := (l.filter fun x => match x.1 with | [] => false | q :: _ => ltS last q).length

theorem filter_lt {α : Type} {p q : α → Bool} : ∀ {l : List α} {x : α}, x ∈ l → (∀ y, q y = true → p y = true) → p x = true → q x = false → (l.filter q).length < (l.filter p).length
  | z :: l, x, hx, hpq, hp, hq => by
    have hle : (l.filter q).length ≤ (l.filter p).length := by
      clear hx
      induction l with
      | nil => simp
      | cons u l ih =>
        simp only [List.filter_cons]
        cases h1 : q u
        · cases h2 : p u <;> simp <;> omega
        · simp [hpq u h1]; omega
    simp only [List.filter_cons]
    rcases List.mem_cons.1 hx with rfl | hx
    · simp [hp, hq]; omega
    · have := filter_lt hx hpq hp hq
      cases h1 : q z
      · cases h2 : p z <;> simp <;> omega
      · simp [hpq z h1]; omega
theorem okP_trans {last : Option Dt} {a b : Dt} (h : okP last a = true) (k : a.lt b = true) : okP last b = true := by
  cases last with
  | none => rfl
  | some q => exact lt_trans' h k
end Go.Proofs.YtmphgnjodangcaaGreat

namespace Go.Proofs.YtmphgnjodangcaaGreat
open Go.RowKit
set_option maxRecDepth 100000

end Go.Proofs.YtmphgnjodangcaaGreat

namespace Go.Proofs.YtmphgnjodangcaaGreat
open Go.RowKit
set_option maxRecDepth 100000

theorem cell_cells {w : World} {n i : Nat} {cs : Array Value} {e : TypeId} {z : Nat × Nat} (h : w.heap[n]? = some (.cells cs e z)) : w.cell? ⟨n, i, none⟩ = cs[i]? := by
  unfold World.cell?; simp only [h]; rfl
theorem cells_frz {w : World} {n i : Nat} {cs : Array Value} {e : TypeId} (h : w.heap[n]? = some (.cells cs e (0, 0))) : w.frozen? ⟨n, i, none⟩ = false := by
  simp [World.frozen?, h]
theorem cells_set {w : World} {n i : Nat} {cs : Array Value} {e : TypeId} {z : Nat × Nat} (h : w.heap[n]? = some (.cells cs e z)) (v : Value) : (w.setCell ⟨n, i, none⟩ v).heap[n]? = some (.cells (cs.setIfInBounds i v) e z) := by
  have hlt := lt_of_block h
  have h' : w.heap[n] = .cells cs e z := by simpa [Array.getElem?_eq_getElem hlt] using h
  show (w.heap.modify n _)[n]? = _
  rw [Array.getElem?_eq_getElem (by simpa using hlt), Array.getElem_modify_self, h']
  rfl
theorem OwnP.setOther {α : Type} {w : World} {base : Nat} {e : TypeId} {sz : Nat} {E : α → List Value → Prop} {v : Value} {xs : List α} (h : OwnP w base e sz E v xs) {a : Addr} (ha : a.block < base) (u : Value) : OwnP (w.setCell a u) base e sz E v xs := by
  obtain ⟨css, h1, h2⟩ := h
  exact ⟨css, h1, ownsRow_setCell_below h2 ha u⟩
theorem OwnD.setOther {α : Type} {w : World} {base : Nat} {e : TypeId} {sz : Nat} {E : World → (Nat → Prop) → α → List Value → Prop} {okp : Nat → Prop} {v : Value} {xs : List α} (h : OwnD w base e sz E okp v xs) (hE : Emon E) {a : Addr} (ha : a.block < base) (ho : ¬ okp a.block) (u : Value) : OwnD (w.setCell a u) base e sz E okp v xs :=
  (OwnP.setOther h ha u).imp fun _ _ _ hx => hE.up (w := w) (fun b hb => Below.heap_setCell w a u b (fun e => ho (e ▸ hb.1))) (fun b hb => ⟨hb.1, by simpa [World.setCell] using hb.2.1, hb.2.2⟩) hx
theorem kid_one {w : World} {ok okq : Nat → Prop} {q : ByteArray} {t : Tr} {ve vk : Value} {B : Nat} (h : t.rda w ok ve vk) (hq : q.size ≤ Big) (hok : ∀ b, ok b → b < w.heap.size ∧ okq b) (e : TypeId) (hB : w.heap.size < B) :
    SlP (w.alloc (.cells #[.string q, ve, vk] e)) B 3 (KdA (w.alloc (.cells #[.string q, ve, vk] e)) okq) (.slice (some ⟨w.heap.size, 0, none⟩) 1 1) [(q, t)] :=
  SlP.oneB (x := (q, t)) (cs := [.string q, ve, vk]) ⟨ve, vk, rfl, hq, rda_up (fun b hb => heap_old (hok b hb).1) (fun b hb => (hok b hb).2) _ _ _ h⟩ rfl e rfl hB
def bestC : Option En → List Value
  | none => [.int .i64 0, .int .i64 0, .string ByteArray.empty, .int .i64 0]
  | some e => [.int .i64 e.dc, .int .i64 e.n, .string e.s, .int .i64 e.v]
def lastD (es : List En) : Option Dt := es.getLast?.map En.dot
/-- The first loop's words. -/
def BuildA (l : List Lf) (w : World) (n : Nat) (wr : World) : Prop :=
  ∃ (es : List En) (ve : Value), OwnP wr (w.heap.size + 2) 142 4 EnE ve es ∧ wr.heap[w.heap.size + 1]? = some (.cells #[ve, .slice none 0 0] 27 (0, 0)) ∧ wr.heap[w.heap.size]? = some (.cells #[.slice none 0 0, .slice none 0 0] 27 (0, 0)) ∧
    w.heap.size + 2 ≤ wr.heap.size ∧ Below w.heap.size w wr ∧ Hid (entsGo l n es = selEnts l) ∧ Hid (ahE l (lastD es) < n) ∧ Hid (es.length + ahE l (lastD es) ≤ l.length)

/-- The second loop's words. -/
def BuildK (f : List Lf → Tr) (l : List Lf) (w w1 : World) (ve : Value) (n : Nat) (vl : Value) (wr : World) : Prop :=
  ∃ (last : ByteArray) (ks : List Kd) (vk : Value), vl = .string last ∧ OwnD wr w1.heap.size 155 3 KdA (fun b => w1.heap.size ≤ b) vk ks ∧ wr.heap[w.heap.size + 1]? = some (.cells #[ve, vk] 27 (0, 0)) ∧ wr.heap[w.heap.size]? = some (.cells #[.slice none 0 0, .slice none 0 0] 27 (0, 0)) ∧
    Keeps (fun b => w.heap.size + 2 ≤ b ∧ b < w1.heap.size) w1 wr ∧ w1.heap.size ≤ wr.heap.size ∧ Below w.heap.size w wr ∧ Hid (ks ++ kidsGo f l n last = kidsGo f l (l.length + 1) ByteArray.empty) ∧ Hid (ahK l last < n) ∧ Hid (ks.length + ahK l last ≤ l.length)

end Go.Proofs.YtmphgnjodangcaaGreat

namespace Go.Proofs.YtmphgnjodangcaaGreat
open Go.RowKit

theorem step_few4 {α : Type} {P : Program} {ops : Array Oper} {o : Oper} {a : Act} {K : Act → World → Prop} {Q : Exit → Act → World → Prop} {F : Prop} {w : World} (hg : o.guard = none) (s x : Operand) (t : TypeId)
    (hop : o.op = .call { callee := .builtin .append, args := #[s, x], argTypes := #[t, t] }) {e : TypeId} {sz bytes base B : Nat} {E : α → List Value → Prop} {v sv : Value} {xs ys : List α} (hi : ElemInfo P t e sz bytes) (hsz : 0 < sz) (hby : bytes ≤ 1000)
    (hone : ∀ x cs, E x cs → ∀ u ∈ cs, u.oneCell' = true) (hs : a.eval s = v) (hown : OwnP w base e sz E v xs) (hx : a.eval x = sv) (hys : SlP w B sz E sv ys) (hl : xs.length + ys.length ≤ Few) (hbase : base ≤ w.heap.size)
    (h : ∀ v' w', OwnP w' base e sz E v' (xs ++ ys) → Below base w w' → w.grownBy w' v.ownBlock → (v'.ownBlock = v.ownBlock ∨ v'.ownBlock = some w.heap.size) → K (a.put o.dst v') w') :
    if Region.wanted o (yielded ops a.tmps) = true then Oper.wp P o a w K Q else F := by
  have hw : Region.wanted o (yielded ops a.tmps) = true := by simp [Region.wanted, hg]
  rw [if_pos hw]
  unfold Few at hl
  obtain ⟨v', w', r1, r2, r3, r4⟩ := run_app (P := P) (ty := o.type) hi hsz hone hown hys (Nat.le_trans (Nat.mul_le_mul hl hby) (by omega)) (by unfold Big; omega) hbase
  unfold Oper.wp execOp
  simp only [hop, resolve, invoke, builtin, Sem.run_bind, Sem.run_pure, Result.andThen_ok, List.map_toArray, List.map_cons, List.map_nil, hs, hx, r1]
  exact h v' w' r2 ((Below.refl base w).grown r3 hbase fun g hg => (hown.lt g hg).1) r3 r4

/-- The array in block Bp holds the four rows vs, which own the lists ls. -/
structure Rows4 {α : Type} (w : World) (base Bp : Nat) (T e : TypeId) (sz : Nat) (E : α → List Value → Prop) (vs : Nat → Value) (ls : Nat → List α) : Prop where
  arr : w.heap[Bp]? = some (.cells #[vs 0, vs 1, vs 2, vs 3] T (0, 0))
  lo : Bp < base
  own : ∀ i, i < 4 → OwnP w base e sz E (vs i) (ls i)
  apart : ∀ i j, i < 4 → j < 4 → i ≠ j → ∀ g, (vs i).ownBlock = some g → (vs j).ownBlock ≠ some g

section
variable {α : Type} {w w' : World} {base Bp : Nat} {T e : TypeId} {sz : Nat} {E : α → List Value → Prop} {vs : Nat → Value} {ls : Nat → List α}
theorem four_get {β : Type} (f : Nat → β) {d : Nat} (h : d < 4) : (#[f 0, f 1, f 2, f 3] : Array β)[d]? = some (f d) := by
  match d, h with
  | 0, _ => rfl
  | 1, _ => rfl
  | 2, _ => rfl
  | 3, _ => rfl
theorem four_set {β : Type} (f : Nat → β) {d : Nat} (h : d < 4) (x : β) : (#[f 0, f 1, f 2, f 3] : Array β).setIfInBounds d x =
    #[(fun i => if i = d then x else f i) 0, (fun i => if i = d then x else f i) 1, (fun i => if i = d then x else f i) 2, (fun i => if i = d then x else f i) 3] := by
  match d, h with
  | 0, _ => simp
  | 1, _ => simp
  | 2, _ => simp
  | 3, _ => simp
theorem Rows4.start (h : w.heap[Bp]? = some (.cells #[.slice none 0 0, .slice none 0 0, .slice none 0 0, .slice none 0 0] T (0, 0))) (hlo : Bp < base) : Rows4 w base Bp T e sz E (fun _ => .slice none 0 0) (fun _ => ([] : List α)) :=
  ⟨h, hlo, fun _ _ => OwnP.nil, fun _ _ _ _ _ g hg => by cases hg⟩
theorem Rows4.at (h : Rows4 w base Bp T e sz E vs ls) {d : Nat} (hd : d < 4) : w.cell? ⟨Bp, d, none⟩ = some (vs d) := (cell_cells h.arr).trans (four_get vs hd)
theorem Rows4.grow (h : Rows4 w base Bp T e sz E vs ls) (hb : Below w.heap.size w w') : Rows4 w' base Bp T e sz E vs ls :=
  ⟨(hb.block _ (Array.getElem?_eq_some_iff.1 h.arr).1).trans h.arr, h.lo, fun i hi => (h.own i hi).grow hb, h.apart⟩
theorem Rows4.same (h : Rows4 w base Bp T e sz E vs ls) (hb : w'.heap = w.heap) : Rows4 w' base Bp T e sz E vs ls :=
  ⟨by rw [hb]; exact h.arr, h.lo, fun i hi => (h.own i hi).keep fun _ _ => by rw [hb], h.apart⟩
theorem Rows4.sl (h : Rows4 w base Bp T e sz E vs ls) {d : Nat} (hd : d < 4) (hl : (ls d).length ≤ Big) : SlP w w.heap.size sz E (vs d) (ls d) := (h.own d hd).sl hl
/-- Row d has grown, and stands in the array again. -/
theorem Rows4.put (h : Rows4 w base Bp T e sz E vs ls) {d : Nat} (hd : d < 4) {v' : Value} {xs : List α} (ho : OwnP w' base e sz E v' xs) (hg : w.grownBy w' (vs d).ownBlock) (hv : v'.ownBlock = (vs d).ownBlock ∨ v'.ownBlock = some w.heap.size) :
    Rows4 (w'.setCell ⟨Bp, d, none⟩ v') base Bp T e sz E (fun i => if i = d then v' else vs i) (fun i => if i = d then xs else ls i) := by
  have hBp : w'.heap[Bp]? = some (.cells #[vs 0, vs 1, vs 2, vs 3] T (0, 0)) :=
    (hg.block Bp (Array.getElem?_eq_some_iff.1 h.arr).1 (fun e => by have := (h.own d hd).lt Bp e.symm; have := h.lo; omega)).trans h.arr
  refine ⟨?_, h.lo, fun i hi => ?_, fun i j hi hj hij g hgi => ?_⟩
  · rw [cells_set hBp v', four_set vs hd v']
  · by_cases e : i = d
    · subst e; simp only [if_pos]; exact ho.setOther h.lo v'
    · simp only [if_neg e]
      refine ((h.own i hi).keep fun g hgi => ?_).setOther h.lo v'
      exact hg.block g ((h.own i hi).lt g hgi).2 (fun e' => h.apart i d hi hd e g hgi e'.symm)
  · by_cases e : i = d
    · subst e
      simp only [if_pos] at hgi
      rw [if_neg (fun e' => hij e'.symm)]
      intro hgj
      rcases hv with hv | hv
      · rw [hv] at hgi; exact h.apart i j hi hj hij g hgi hgj
      · rw [hv] at hgi; cases hgi; exact absurd ((h.own j hj).lt _ hgj).2 (Nat.lt_irrefl _)
    · simp only [if_neg e] at hgi
      by_cases e2 : j = d
      · subst e2
        rw [if_pos rfl]
        intro hgj
        rcases hv with hv | hv
        · rw [hv] at hgj; exact h.apart i j hi hj hij g hgi hgj
        · rw [hv] at hgj; cases hgj; exact absurd ((h.own i hi).lt _ hgi).2 (Nat.lt_irrefl _)
      · rw [if_neg e2]; exact h.apart i j hi hj hij g hgi
end

theorem SlA.shape {α : Type} {w : World} {ok : Nat → Prop} {sz : Nat} {E : α → List Value → Prop} {v : Value} {xs : List α} (h : SlA w ok sz E v xs) : ∃ A c, v = .slice A xs.length c := by
  obtain ⟨A, c, rfl, _⟩ := h; exact ⟨A, c, rfl⟩
theorem SlA.slp {α : Type} {w w' : World} {ok : Nat → Prop} {sz : Nat} {E : α → List Value → Prop} {v : Value} {xs : List α} (h : SlA w ok sz E v xs) (hk : ∀ b, ok b → b < w.heap.size) (hb : Below w.heap.size w w') : SlP w' w'.heap.size sz E v xs :=
  SlP_iff.2 (h.up (fun b hb' => hb.block b (hk b hb')) (fun b hb' => Nat.lt_of_lt_of_le (hk b hb') hb.size) (fun _ _ _ h => h))
theorem rda_rd {w w' : World} {ok : Nat → Prop} {t : Tr} {ve vk : Value} (h : t.rda w ok ve vk) (hk : ∀ b, ok b → b < w.heap.size) (hb : Below w.heap.size w w') : t.rd w' w'.heap.size ve vk :=
  (rd_rda t ve vk).2 (rda_up (fun b hb' => hb.block b (hk b hb')) (fun b hb' => Nat.lt_of_lt_of_le (hk b hb') hb.size) t ve vk h)

end Go.Proofs.YtmphgnjodangcaaGreat

namespace Go.Proofs.YtmphgnjodangcaaGreat
open Go.RowKit
set_option maxRecDepth 100000

def dcsOk : Int → List Sp → Bool
  | _, [] => true
  | last, s :: c => decide (last ≤ s.dc) && decide (s.dc < 4) && dcsOk s.dc c
/-- A context that may be taken apart. -/
def apartB (c : List Sp) : Bool := dcsOk 0 c && (List.range 4).all fun (dc : Nat) => runsR none (partL c dc)
def nilV : Value := .slice none 0 0
/-- What context.apart hands back. -/
def RetA (w : World) (c : List Sp) (e : Ending) (w' : World) : Prop :=
  ∃ vs : Nat → Value, e = .returned (.tuple #[.agg #[vs 0, vs 1, vs 2, vs 3], .bool (apartB c)]) ∧ (∀ i, i < 4 → SlA w' (fun b => w.heap.size ≤ b ∧ b < w'.heap.size) 2 RuE (vs i) (if apartB c then partL c i else [])) ∧ Below w.heap.size w w'
/-- The state of the first loop. -/
def ApA (c : List Sp) (w : World) (k : Nat) (wr : World) : Prop :=
  ∃ vs : Nat → Value, Rows4 wr (w.heap.size + 2) (w.heap.size + 1) 205 233 2 RuE vs (fun i => partL (c.take k) i) ∧
    wr.heap[w.heap.size]? = some (.cells #[.slice none 0 0, .slice none 0 0, .slice none 0 0, .slice none 0 0] 205 (0, 0)) ∧ Below w.heap.size w wr

set_option maxHeartbeats 4000000 in
theorem apart_any (c : List Sp) (vc : Value) (w : World) (h : SlP w w.heap.size 3 SpE vc c) (hN : c.length ≤ 900000) :
    Calls Tryz.prog 222 #[vc] w (RetA w c) := by
  obtain ⟨A, n, rfl, b1, b2, b3⟩ := h
  unfold Big at b2
  go_enter Tryz.func222, Tryz.ntmps222
  go_wp2_with fail
  go_loopw [5, 12] (fun l i wr => ∃ (k : Nat) (L : Int), k ≤ c.length ∧ i = .int .i64 k ∧ l = .int .i64 L ∧ 0 ≤ L ∧ L ≤ 4 ∧ Hid (dcsOk L (c.drop k) = dcsOk 0 c) ∧ ApA c w k wr) (fun _ i _ => c.length - (intOf i).toNat)
  case atStart =>
    refine ⟨0, 0, Nat.zero_le _, rfl, rfl, by omega, by omega, rfl, fun _ => .slice none 0 0, Rows4.start (heap_new (by simp)) (by omega), ?_, ((Below.refl _ w).alloc (Nat.le_refl _) _).alloc (by simp) _⟩
    rw [heap_old (by simp)]; exact heap_new rfl
  case round =>
    obtain ⟨k, L, hk, rfl, rfl, hL0, hL1, hrel, vs, hr4, hg2, hb⟩ := hrel
    have hsz := hb.size
    have hsz2 : w.heap.size + 1 < wr.heap.size := (Array.getElem?_eq_some_iff.1 hr4.arr).1
    have hsz3 : w.heap.size < wr.heap.size := by omega
    have hsz4 : w.heap.size ≠ wr.heap.size := by omega
    have hsz5 : w.heap.size + 1 ≠ wr.heap.size := by omega
    by_cases hlt : k < c.length
    · obtain ⟨⟨dc, fr, hi⟩, hx⟩ : ∃ x, c[k]? = some x := ⟨_, List.getElem?_eq_getElem hlt⟩
      obtain ⟨b, off, rfl, hbB, hc⟩ := b3 (by rintro rfl; simp at hlt)
      obtain ⟨cs, ⟨rfl, hok⟩, _, hu⟩ := hc k _ hx
      have e0 : wr.cell? ⟨b, off + k * 3, none⟩ = some (.int .i64 dc) := (hb.cell hbB).trans (hu 0 _ rfl)
      have e1 : wr.cell? ⟨b, off + k * 3 + 1, none⟩ = some (.int .i64 fr) := (hb.cell hbB).trans (hu 1 _ rfl)
      have e2 : wr.cell? ⟨b, off + k * 3 + 2, none⟩ = some (.int .i64 hi) := (hb.cell hbB).trans (hu 2 _ rfl)
      have HD : Hid (dcsOk 0 c = (decide (L ≤ dc) && decide (dc < 4) && dcsOk dc (c.drop (k + 1)))) := by
        have := hrel.out
        rw [drop_cons hx] at this
        exact this.symm
      have HG := hid hg2
      have HR4 := hid hr4
      have HP : ∀ (d : Nat), (dc = (d : Int)) → Hid ((fun i : Nat => partL (c.take (k + 1)) i) = fun i => if i = d then partL (c.take k) d ++ [(fr, hi)] else partL (c.take k) i) := fun d hd => by
        unfold Hid; funext i
        rw [partL_take hx]
        by_cases e : i = d
        · subst e; rw [if_pos rfl, if_pos (by exact hd)]
        · rw [if_neg e, if_neg (by show ¬ dc = (i : Int); omega), List.append_nil]
      have hpl := partL_len (c.take k)
      clear hu hx hc b3 hrel hg2 hr4
      by_cases h1 : dc < L ∨ 4 ≤ dc
      · have HF : Hid (apartB c = false) := by
          unfold Hid apartB
          rw [HD.out]
          rcases h1 with h1 | h1
          · rw [show decide (L ≤ dc) = false by simp; omega]; simp
          · rw [show decide (dc < 4) = false by simp; omega]; simp
        have z0 := cells_frz (i := 0) HG.out
        have z1 := cells_frz (i := 1) HG.out
        have z2 := cells_frz (i := 2) HG.out
        have z3 := cells_frz (i := 3) HG.out
        have c0 : wr.cell? ⟨w.heap.size, 0, none⟩ = some (.slice none 0 0) := cell_cells (i := 0) HG.out
        have c1 : wr.cell? ⟨w.heap.size, 1, none⟩ = some (.slice none 0 0) := cell_cells (i := 1) HG.out
        have c2 : wr.cell? ⟨w.heap.size, 2, none⟩ = some (.slice none 0 0) := cell_cells (i := 2) HG.out
        have c3 : wr.cell? ⟨w.heap.size, 3, none⟩ = some (.slice none 0 0) := cell_cells (i := 3) HG.out
        have hz := HG
        have hBz := hb
        by_cases h2 : dc < L
        · go_wp2_with fail
          have hW0 := cells_set (i := 3) (cells_set (i := 2) (cells_set (i := 1) (cells_set (i := 0) hz.out (.slice none 0 0)) (.slice none 0 0)) (.slice none 0 0)) (.slice none 0 0)
          have hBW : Below w.heap.size w ((((((wr).setCell ⟨w.heap.size, 0, none⟩ (.slice none 0 0)).setCell ⟨w.heap.size, 1, none⟩ (.slice none 0 0)).setCell ⟨w.heap.size, 2, none⟩ (.slice none 0 0)).setCell ⟨w.heap.size, 3, none⟩ (.slice none 0 0))) := (((hBz.setCell (Nat.le_refl _) _).setCell (Nat.le_refl _) _).setCell (Nat.le_refl _) _).setCell (Nat.le_refl _) _
          clear c0 c1 c2 c3 z0 z1 z2 z3
          generalize (((((wr).setCell ⟨w.heap.size, 0, none⟩ (.slice none 0 0)).setCell ⟨w.heap.size, 1, none⟩ (.slice none 0 0)).setCell ⟨w.heap.size, 2, none⟩ (.slice none 0 0)).setCell ⟨w.heap.size, 3, none⟩ (.slice none 0 0)) = W at *
          have hWs : w.heap.size < W.heap.size := (Array.getElem?_eq_some_iff.1 hW0).1
          have r0 : (W.alloc (.cells #[.int .i64 dc, .int .i64 fr, .int .i64 hi] 47)).cell? ⟨w.heap.size, 0, none⟩ = some (.slice none 0 0) := (cell_cells (i := 0) (((heap_old hWs).trans) hW0)).trans (by simp)
          have r1 : (W.alloc (.cells #[.int .i64 dc, .int .i64 fr, .int .i64 hi] 47)).cell? ⟨w.heap.size, 1, none⟩ = some (.slice none 0 0) := (cell_cells (i := 1) (((heap_old hWs).trans) hW0)).trans (by simp)
          have r2 : (W.alloc (.cells #[.int .i64 dc, .int .i64 fr, .int .i64 hi] 47)).cell? ⟨w.heap.size, 2, none⟩ = some (.slice none 0 0) := (cell_cells (i := 2) (((heap_old hWs).trans) hW0)).trans (by simp)
          have r3 : (W.alloc (.cells #[.int .i64 dc, .int .i64 fr, .int .i64 hi] 47)).cell? ⟨w.heap.size, 3, none⟩ = some (.slice none 0 0) := (cell_cells (i := 3) (((heap_old hWs).trans) hW0)).trans (by simp)
          have hBX : Below w.heap.size w (W.alloc (.cells #[.int .i64 dc, .int .i64 fr, .int .i64 hi] 47)) := (fun h => h.alloc (by omega) _) hBW
          refine bodyPost_ret (v := .tuple #[.agg #[.slice none 0 0, .slice none 0 0, .slice none 0 0, .slice none 0 0], .bool false]) (by simp [results, Tryz.results222, go_sem, r0, r1, r2, r3]) rfl ⟨fun _ => .slice none 0 0, by rw [HF.out], fun i _ => by rw [HF.out]; exact ⟨none, 0, rfl, Nat.le_refl _, by simp, fun h => absurd rfl h⟩, hBX⟩
        · have h4 : 4 ≤ dc := by omega
          go_wp2_with fail
          have hW0 := cells_set (i := 3) (cells_set (i := 2) (cells_set (i := 1) (cells_set (i := 0) hz.out (.slice none 0 0)) (.slice none 0 0)) (.slice none 0 0)) (.slice none 0 0)
          have hBW : Below w.heap.size w ((((((wr).setCell ⟨w.heap.size, 0, none⟩ (.slice none 0 0)).setCell ⟨w.heap.size, 1, none⟩ (.slice none 0 0)).setCell ⟨w.heap.size, 2, none⟩ (.slice none 0 0)).setCell ⟨w.heap.size, 3, none⟩ (.slice none 0 0))) := (((hBz.setCell (Nat.le_refl _) _).setCell (Nat.le_refl _) _).setCell (Nat.le_refl _) _).setCell (Nat.le_refl _) _
          clear c0 c1 c2 c3 z0 z1 z2 z3
          generalize (((((wr).setCell ⟨w.heap.size, 0, none⟩ (.slice none 0 0)).setCell ⟨w.heap.size, 1, none⟩ (.slice none 0 0)).setCell ⟨w.heap.size, 2, none⟩ (.slice none 0 0)).setCell ⟨w.heap.size, 3, none⟩ (.slice none 0 0)) = W at *
          have hWs : w.heap.size < W.heap.size := (Array.getElem?_eq_some_iff.1 hW0).1
          have r0 : (W.alloc (.cells #[.int .i64 dc, .int .i64 fr, .int .i64 hi] 47)).cell? ⟨w.heap.size, 0, none⟩ = some (.slice none 0 0) := (cell_cells (i := 0) (((heap_old hWs).trans) hW0)).trans (by simp)
          have r1 : (W.alloc (.cells #[.int .i64 dc, .int .i64 fr, .int .i64 hi] 47)).cell? ⟨w.heap.size, 1, none⟩ = some (.slice none 0 0) := (cell_cells (i := 1) (((heap_old hWs).trans) hW0)).trans (by simp)
          have r2 : (W.alloc (.cells #[.int .i64 dc, .int .i64 fr, .int .i64 hi] 47)).cell? ⟨w.heap.size, 2, none⟩ = some (.slice none 0 0) := (cell_cells (i := 2) (((heap_old hWs).trans) hW0)).trans (by simp)
          have r3 : (W.alloc (.cells #[.int .i64 dc, .int .i64 fr, .int .i64 hi] 47)).cell? ⟨w.heap.size, 3, none⟩ = some (.slice none 0 0) := (cell_cells (i := 3) (((heap_old hWs).trans) hW0)).trans (by simp)
          have hBX : Below w.heap.size w (W.alloc (.cells #[.int .i64 dc, .int .i64 fr, .int .i64 hi] 47)) := (fun h => h.alloc (by omega) _) hBW
          refine bodyPost_ret (v := .tuple #[.agg #[.slice none 0 0, .slice none 0 0, .slice none 0 0, .slice none 0 0], .bool false]) (by simp [results, Tryz.results222, go_sem, r0, r1, r2, r3]) rfl ⟨fun _ => .slice none 0 0, by rw [HF.out], fun i _ => by rw [HF.out]; exact ⟨none, 0, rfl, Nat.le_refl _, by simp, fun h => absurd rfl h⟩, hBX⟩
      · obtain ⟨d, rfl⟩ : ∃ d : Nat, dc = (d : Int) := ⟨dc.toNat, by omega⟩
        have hd4 : d < 4 := by omega
        have hdi : (d : Int) < 4 := by omega
        have hdL : L ≤ (d : Int) := by omega
        have HDR : Hid (dcsOk (d : Int) (c.drop (k + 1)) = dcsOk 0 c) := by
          unfold Hid; rw [HD.out, show decide (L ≤ (d : Int)) = true by simp; omega, show decide ((d : Int) < 4) = true by simp; omega]; rfl
        have HPD := HP d rfl
        have HL : Hid ((partL (c.take k) d).length + [(fr, hi)].length ≤ Few) := by have := hpl d; rw [List.length_take] at this; unfold Hid Few; simp; omega
        have HRE : Hid (RuE (fr, hi) [.int .i64 fr, .int .i64 hi]) := ⟨rfl, hok.fr, hok.hi⟩
        have hbp : wr.cell? ⟨w.heap.size + 1, d, none⟩ = some (vs d) := HR4.out.at hd4
        have HOWN : Hid (∀ W, Below wr.heap.size wr W → OwnP W (w.heap.size + 2) 233 2 RuE (vs d) (partL (c.take k) d)) := fun W hW => (HR4.out.own d hd4).grow hW
        have HLT := hid ((HR4.out.own d hd4).lt)
        have HGB : Hid (∀ W3 w4, Below wr.heap.size wr W3 → W3.grownBy w4 (vs d).ownBlock → ∀ b, b < w.heap.size + 2 → w4.heap[b]? = wr.heap[b]?) := fun W3 w4 h3 h4 b hb =>
          (h4.block b (by have := h3.size; omega) (fun e => by have := HLT.out b e.symm; omega)).trans (h3.block b (by omega))
        clear HP hpl h1 hok HD
        go_wp2_with fail
        refine wp_region_pop_n (S := fun w' => w'.cell? ⟨wr.heap.size, 0, none⟩ = some (.int .i64 (d : Int)) ∧ w'.cell? ⟨wr.heap.size, 1, none⟩ = some (.int .i64 fr) ∧ w'.cell? ⟨wr.heap.size, 2, none⟩ = some (.int .i64 hi) ∧ w'.cell? ⟨w.heap.size + 1, d, none⟩ = some (vs d)) 14 (by kernel_rfl) (by kernel_rfl) ?_
        simp only [List.take_succ_cons, List.take_zero, List.drop_succ_cons, List.drop_zero]
        have hHeld : (fun w' : World => w'.cell? ⟨wr.heap.size, 0, none⟩ = some (.int .i64 (d : Int)) ∧ w'.cell? ⟨wr.heap.size, 1, none⟩ = some (.int .i64 fr) ∧ w'.cell? ⟨wr.heap.size, 2, none⟩ = some (.int .i64 hi) ∧ w'.cell? ⟨w.heap.size + 1, d, none⟩ = some (vs d)) (wr.alloc (.cells #[.int .i64 (d : Int), .int .i64 fr, .int .i64 hi] 47)).drew := by go_keep
        refine wpAnyH_take (i := 0) (oi := _) (v := ?v0) rfl (by kernel_rfl) (by kernel_rfl) (by kernel_rfl) (fun _ _ _ h => h) (Or.inl ⟨by rfl, ?h0⟩) (by assumption) ?_
        case h0 => (intro w hSw; (try dsimp only at hSw); go_simp; (try with_reducible rfl))
        simp only [Act.put, List.setIfInBounds_toArray]
        refine wpAnyH_take (i := 1) (oi := _) (v := ?v1) rfl (by kernel_rfl) (by kernel_rfl) (by kernel_rfl) (fun _ _ _ h => h) (Or.inl ⟨by rfl, ?h1⟩) (by assumption) ?_
        case h1 => (intro w hSw; (try dsimp only at hSw); go_simp; (try with_reducible rfl))
        simp only [Act.put, List.setIfInBounds_toArray]
        refine wpAnyH_take (i := 2) (oi := _) (v := ?v2) rfl (by kernel_rfl) (by kernel_rfl) (by kernel_rfl) (fun _ _ _ h => h) (Or.inl ⟨by rfl, ?h2⟩) (by assumption) ?_
        case h2 => (intro w hSw; (try dsimp only at hSw); go_simp; (try with_reducible rfl))
        simp only [Act.put, List.setIfInBounds_toArray]
        refine wpAnyH_take (i := 3) (oi := _) (v := ?v3) rfl (by kernel_rfl) (by kernel_rfl) (by kernel_rfl) (fun _ _ _ h => h) (Or.inl ⟨by rfl, ?h3⟩) (by assumption) ?_
        case h3 => (intro w hSw; (try dsimp only at hSw); go_simp; (try with_reducible rfl))
        simp only [Act.put, List.setIfInBounds_toArray]
        refine wpAnyH_take (i := 4) (oi := _) (v := ?v4) rfl (by kernel_rfl) (by kernel_rfl) (by kernel_rfl) (fun _ _ _ h => h) (Or.inl ⟨by rfl, ?h4⟩) (by assumption) ?_
        case h4 => (intro w hSw; (try dsimp only at hSw); go_simp; (try with_reducible rfl))
        simp only [Act.put, List.setIfInBounds_toArray]
        refine wpAnyH_take (i := 5) (oi := _) (v := ?v5) rfl (by kernel_rfl) (by kernel_rfl) (by kernel_rfl) (fun _ _ _ h => h) (Or.inl ⟨by rfl, ?h5⟩) (by assumption) ?_
        case h5 => (intro w hSw; (try dsimp only at hSw); go_simp; (try with_reducible rfl))
        simp only [Act.put, List.setIfInBounds_toArray]
        refine wpAnyH_take (i := 6) (oi := _) (v := ?v6) rfl (by kernel_rfl) (by kernel_rfl) (by kernel_rfl) (fun _ _ _ h => h) (Or.inl ⟨by rfl, ?h6⟩) (by assumption) ?_
        case h6 => (intro w hSw; (try dsimp only at hSw); go_simp; (try with_reducible rfl))
        simp only [Act.put, List.setIfInBounds_toArray]
        refine wpAnyH_take (i := 7) (oi := _) (v := ?v7) rfl (by kernel_rfl) (by kernel_rfl) (by kernel_rfl) (fun _ _ _ h => h) (Or.inl ⟨by rfl, ?h7⟩) (by assumption) ?_
        case h7 => (intro w hSw; (try dsimp only at hSw); go_simp; (try with_reducible rfl))
        simp only [Act.put, List.setIfInBounds_toArray]
        refine wpAnyH_take (i := 8) (oi := _) (v := ?v8) rfl (by kernel_rfl) (by kernel_rfl) (by kernel_rfl) (fun _ _ _ h => h) (Or.inl ⟨by rfl, ?h8⟩) (by assumption) ?_
        case h8 => (intro w hSw; (try dsimp only at hSw); go_simp; (try with_reducible rfl))
        simp only [Act.put, List.setIfInBounds_toArray]
        refine wpAnyH_take (i := 9) (oi := _) (v := ?v9) rfl (by kernel_rfl) (by kernel_rfl) (by kernel_rfl) (fun _ _ _ h => h) (Or.inl ⟨by rfl, ?h9⟩) (by assumption) ?_
        case h9 => (intro w hSw; (try dsimp only at hSw); go_simp; (try with_reducible rfl))
        simp only [Act.put, List.setIfInBounds_toArray]
        refine wpAnyH_take (i := 10) (oi := _) (v := ?v10) rfl (by kernel_rfl) (by kernel_rfl) (by kernel_rfl) (fun _ _ _ h => h) (Or.inl ⟨by rfl, ?h10⟩) (by assumption) ?_
        case h10 => (intro w hSw; (try dsimp only at hSw); go_simp; (try with_reducible rfl))
        simp only [Act.put, List.setIfInBounds_toArray]
        refine wpAnyH_ready (rs := [11]) (by kernel_rfl) (by simp) ?_
        refine AllReadyH.cons (o := _) rfl (fun K hK => ?_) AllReadyH.nil
        go_simp
        refine hK.out _ _ ?_ (fun hHeld11 => ?_)
        · go_keep
        clear hK K
        simp only [List.setIfInBounds_toArray]
        refine wpAnyH_ready (rs := [12]) (by kernel_rfl) (by simp) ?_
        refine AllReadyH.cons (o := _) rfl (fun K hK => ?_) AllReadyH.nil
        (refine step_few4 (v := vs d) rfl (.tmp 33) (.tmp 39) _ rfl eiRun (by decide) (by decide) (fun _ _ h => h.one) rfl (HOWN.out _ ((((Below.refl wr.heap.size wr).alloc (Nat.le_refl _) _).drew).alloc (by simp) _)) rfl (SlP.one (x := (fr, hi)) HRE.out rfl _ (by simp)) HL.out (by simp; omega) ?_; intro v1 w4 hown4 hb4 hg4 hv4; have hsh4 := OwnP.shape hown4; simp only [List.length_append, List.length_singleton] at hsh4; obtain ⟨A1, c1, hv1⟩ := hsh4; subst hv1; have hg4h := hid (HGB.out _ _ ((((Below.refl wr.heap.size wr).alloc (Nat.le_refl _) _).drew).alloc (by simp) _) hg4); have hc4 : w4.cell? ⟨w.heap.size + 1, d, none⟩ = some (vs d) := (cell_cells ((hg4h.out _ (by omega)).trans HR4.out.arr)).trans (four_get vs hd4); have hf4 : w4.frozen? ⟨w.heap.size + 1, d, none⟩ = false := cells_frz ((hg4h.out _ (by omega)).trans HR4.out.arr); have hx3 := (hg4.block wr.heap.size (by simp; omega) (fun e => by have := HLT.out _ e.symm; omega)).trans ((heap_old (by simp)).trans (heap_new (o := .cells #[.int .i64 (d : Int), .int .i64 fr, .int .i64 hi] 47) rfl)); have hx4 : Hid (w4.cell? ⟨wr.heap.size, 0, none⟩ = some (.int .i64 (d : Int)) ∧ w4.cell? ⟨wr.heap.size, 1, none⟩ = some (.int .i64 fr) ∧ w4.cell? ⟨wr.heap.size, 2, none⟩ = some (.int .i64 hi) ∧ w4.cell? ⟨w.heap.size + 1, d, none⟩ = some (vs d)) := ⟨(cell_cells (i := 0) hx3).trans rfl, (cell_cells (i := 1) hx3).trans rfl, (cell_cells (i := 2) hx3).trans rfl, hc4⟩; clear hx3)
        refine hK.out _ _ ?_ (fun hHeld12 => ?_)
        · exact hx4.out
        clear hK K
        simp only [Act.put, List.setIfInBounds_toArray]
        refine wpAnyH_take (i := 13) (oi := _) (v := ?v13) rfl (by kernel_rfl) (by kernel_rfl) (by kernel_rfl) (fun _ _ _ h => h) (Or.inl ⟨by rfl, ?h13⟩) (by assumption) ?_
        case h13 => (intro w hSw; (try dsimp only at hSw); go_simp; (try with_reducible rfl))
        simp only [Act.put, List.setIfInBounds_toArray]
        refine wpAnyH_done (by kernel_rfl) ?_ _
        change wpList _ _ _ _ _ _
        go_wp2_with fail
        go_roundw
        case rel =>
          refine ⟨k + 1, (d : Int), by omega, by go_num, rfl, by omega, by omega, HDR.out, fun i => if i = d then .slice A1 ((partL (c.take k) d).length + 1) c1 else vs i, ?_, ?_, ?_⟩
          · rw [HPD.out]
            exact Rows4.put (w := ((wr.alloc (.cells #[.int .i64 (d : Int), .int .i64 fr, .int .i64 hi] 47)).alloc (.cells #[.int .i64 fr, .int .i64 hi] 233)).drew) (((HR4.out.grow ((Below.refl _ wr).alloc (Nat.le_refl _) _)).grow ((Below.refl _ _).alloc (Nat.le_refl _) _)).same rfl) hd4 hown4 hg4 hv4
          · exact (Below.heap_setCell _ _ _ _ (by simp)).trans ((hg4h.out _ (by omega)).trans HG.out)
          · exact (((((hb.alloc hsz _).drew).alloc (by simp; omega) _).trans (hb4.mono (by omega))).setCell (by simp) _)
        case measure => simp [intOf]; omega
    · obtain rfl : k = c.length := by omega
      rw [List.take_of_length_le (Nat.le_refl _)] at hr4
      have c0 : wr.cell? ⟨w.heap.size + 1, 0, none⟩ = some (vs 0) := hr4.at (by omega)
      have c1 : wr.cell? ⟨w.heap.size + 1, 1, none⟩ = some (vs 1) := hr4.at (by omega)
      have c2 : wr.cell? ⟨w.heap.size + 1, 2, none⟩ = some (vs 2) := hr4.at (by omega)
      have c3 : wr.cell? ⟨w.heap.size + 1, 3, none⟩ = some (vs 3) := hr4.at (by omega)
      have HR := hid hr4
      have HG := hid hg2
      have hD : dcsOk 0 c = true := by rw [← hrel.out]; simp [dcsOk]
      have HD := hid hD
      clear hr4 hg2 hrel hD b3
      go_wp2_with fail
      obtain ⟨wo, rfl⟩ : ∃ wo : World, wo = wr := ⟨_, rfl⟩
      go_loopw [44] (fun i wr => ∃ k : Nat, k ≤ 4 ∧ i = .int .i64 k ∧ Hid ((List.range k).all (fun (dc : Nat) => runsR none (partL c dc)) = true) ∧ Below wo.heap.size wo wr) (fun i _ => 4 - (intOf i).toNat)
      case atStart => exact ⟨0, by omega, rfl, rfl, Below.refl _ _⟩
      case round =>
        obtain ⟨k, hk, rfl, hrel, hbi⟩ := hrel
        have hsi := hbi.size
        by_cases hk4 : k < 4
        · have hidx : ∀ w, (Instr.index 205 (.agg #[vs 0, vs 1, vs 2, vs 3]) (.int .i64 (k : Int))).run Tryz.prog w = .ok (vs k) w := fun w => by
            match k, hk4 with
            | 0, _ => rfl
            | 1, _ => rfl
            | 2, _ => rfl
            | 3, _ => rfl
          have HSL : Hid (SlP wr wr.heap.size 2 RuE (vs k) (partL c k)) := (HR.out.sl hk4 (by have := partL_len c k; unfold Big; omega)).imp hbi hsi fun _ _ _ h => h
          have hz4 : w.heap.size < wo.heap.size := by omega
          cases hq : runsR none (partL c k)
          · have HF : Hid (apartB c = false) := by
              unfold Hid apartB
              have : (List.range 4).all (fun (dc : Nat) => runsR none (partL c dc)) = false := by
                rw [List.all_eq_false]; exact ⟨k, by simpa using hk4, by rw [hq]; simp⟩
              rw [this]; simp
            have HQ := hid hq
            clear hq c0 c1 c2 c3
            go_wp2_with (go_at_call 251; refine (sright_any (partL c k) (vs k) wr HSL.out).mono ?_; rw [HQ.out]; rintro e w1 ⟨rfl, hb1⟩; have hz := hid ((hb1.block w.heap.size (by omega)).trans ((hbi.block w.heap.size hz4).trans HG.out)); have hBz := (hb.trans (hbi.mono hsz)).trans (hb1.mono (by omega)); have z0 := cells_frz (i := 0) hz.out; have z1 := cells_frz (i := 1) hz.out; have z2 := cells_frz (i := 2) hz.out; have z3 := cells_frz (i := 3) hz.out; have c0 : w1.cell? ⟨w.heap.size, 0, none⟩ = some (.slice none 0 0) := cell_cells (i := 0) hz.out; have c1 : w1.cell? ⟨w.heap.size, 1, none⟩ = some (.slice none 0 0) := cell_cells (i := 1) hz.out; have c2 : w1.cell? ⟨w.heap.size, 2, none⟩ = some (.slice none 0 0) := cell_cells (i := 2) hz.out; have c3 : w1.cell? ⟨w.heap.size, 3, none⟩ = some (.slice none 0 0) := cell_cells (i := 3) hz.out)
            go_wp2_with fail
            have hW0 := cells_set (i := 3) (cells_set (i := 2) (cells_set (i := 1) (cells_set (i := 0) hz.out (.slice none 0 0)) (.slice none 0 0)) (.slice none 0 0)) (.slice none 0 0)
            have hBW : Below w.heap.size w ((((((w1).setCell ⟨w.heap.size, 0, none⟩ (.slice none 0 0)).setCell ⟨w.heap.size, 1, none⟩ (.slice none 0 0)).setCell ⟨w.heap.size, 2, none⟩ (.slice none 0 0)).setCell ⟨w.heap.size, 3, none⟩ (.slice none 0 0))) := (((hBz.setCell (Nat.le_refl _) _).setCell (Nat.le_refl _) _).setCell (Nat.le_refl _) _).setCell (Nat.le_refl _) _
            clear c0 c1 c2 c3 z0 z1 z2 z3
            generalize (((((w1).setCell ⟨w.heap.size, 0, none⟩ (.slice none 0 0)).setCell ⟨w.heap.size, 1, none⟩ (.slice none 0 0)).setCell ⟨w.heap.size, 2, none⟩ (.slice none 0 0)).setCell ⟨w.heap.size, 3, none⟩ (.slice none 0 0)) = W at *
            have hWs : w.heap.size < W.heap.size := (Array.getElem?_eq_some_iff.1 hW0).1
            have r0 : (W).cell? ⟨w.heap.size, 0, none⟩ = some (.slice none 0 0) := (cell_cells (i := 0) ((id) hW0)).trans (by simp)
            have r1 : (W).cell? ⟨w.heap.size, 1, none⟩ = some (.slice none 0 0) := (cell_cells (i := 1) ((id) hW0)).trans (by simp)
            have r2 : (W).cell? ⟨w.heap.size, 2, none⟩ = some (.slice none 0 0) := (cell_cells (i := 2) ((id) hW0)).trans (by simp)
            have r3 : (W).cell? ⟨w.heap.size, 3, none⟩ = some (.slice none 0 0) := (cell_cells (i := 3) ((id) hW0)).trans (by simp)
            have hBX : Below w.heap.size w (W) := (id) hBW
            refine bodyPost_ret (v := .tuple #[.agg #[.slice none 0 0, .slice none 0 0, .slice none 0 0, .slice none 0 0], .bool false]) (by simp [results, Tryz.results222, go_sem, r0, r1, r2, r3]) rfl ⟨fun _ => .slice none 0 0, by rw [HF.out], fun i _ => by rw [HF.out]; exact ⟨none, 0, rfl, Nat.le_refl _, by simp, fun h => absurd rfl h⟩, hBX⟩
          · have HN : Hid ((List.range (k + 1)).all (fun (dc : Nat) => runsR none (partL c dc)) = true) := by
              unfold Hid; rw [List.range_succ, List.all_append, hrel.out]; simp [hq]
            have HQ := hid hq
            clear hq
            go_wp2_with (go_at_call 251; refine (sright_any (partL c k) (vs k) wr HSL.out).mono ?_; rw [HQ.out]; rintro e w1 ⟨rfl, hb1⟩)
            go_roundw
            case rel => exact ⟨k + 1, by omega, by go_num, HN.out, hbi.trans (hb1.mono hsi)⟩
            case measure => simp [intOf]; omega
        · obtain rfl : k = 4 := by omega
          have HT : Hid (apartB c = true) := by unfold Hid apartB; rw [HD.out, hrel.out]; rfl
          have HR2 := hid (HR.out.grow hbi)
          have hz := hid ((hbi.block w.heap.size (by omega)).trans HG.out)
          have hBz := hb.trans (hbi.mono hsz)
          have hsz6 : w.heap.size < wr.heap.size := by omega
          have hsz7 : w.heap.size + 1 < wr.heap.size := by omega
          clear c0 c1 c2 c3
          have z0 := cells_frz (i := 0) hz.out
          have z1 := cells_frz (i := 1) hz.out
          have z2 := cells_frz (i := 2) hz.out
          have z3 := cells_frz (i := 3) hz.out
          have c0 : wr.cell? ⟨w.heap.size, 0, none⟩ = some (.slice none 0 0) := cell_cells (i := 0) hz.out
          have c1 : wr.cell? ⟨w.heap.size, 1, none⟩ = some (.slice none 0 0) := cell_cells (i := 1) hz.out
          have c2 : wr.cell? ⟨w.heap.size, 2, none⟩ = some (.slice none 0 0) := cell_cells (i := 2) hz.out
          have c3 : wr.cell? ⟨w.heap.size, 3, none⟩ = some (.slice none 0 0) := cell_cells (i := 3) hz.out
          have d0 : wr.cell? ⟨w.heap.size + 1, 0, none⟩ = some (vs 0) := HR2.out.at (by omega)
          have d1 : wr.cell? ⟨w.heap.size + 1, 1, none⟩ = some (vs 1) := HR2.out.at (by omega)
          have d2 : wr.cell? ⟨w.heap.size + 1, 2, none⟩ = some (vs 2) := HR2.out.at (by omega)
          have d3 : wr.cell? ⟨w.heap.size + 1, 3, none⟩ = some (vs 3) := HR2.out.at (by omega)
          obtain ⟨A0, m0, g0⟩ := (HR2.out.own 0 (by omega)).shape
          obtain ⟨A1, m1, g1⟩ := (HR2.out.own 1 (by omega)).shape
          obtain ⟨A2, m2, g2⟩ := (HR2.out.own 2 (by omega)).shape
          obtain ⟨A3, m3, g3⟩ := (HR2.out.own 3 (by omega)).shape
          have G0 := hid g0
          have G1 := hid g1
          have G2 := hid g2
          have G3 := hid g3
          simp only [g0, g1, g2, g3] at d0 d1 d2 d3 ⊢
          clear g0 g1 g2 g3
          go_wp2_with fail
          have hW0 := cells_set (i := 3) (cells_set (i := 2) (cells_set (i := 1) (cells_set (i := 0) hz.out (vs 0)) (vs 1)) (vs 2)) (vs 3)
          have hBW : Below w.heap.size w ((((wr.setCell ⟨w.heap.size, 0, none⟩ (vs 0)).setCell ⟨w.heap.size, 1, none⟩ (vs 1)).setCell ⟨w.heap.size, 2, none⟩ (vs 2)).setCell ⟨w.heap.size, 3, none⟩ (vs 3)) := (((hBz.setCell (Nat.le_refl _) _).setCell (Nat.le_refl _) _).setCell (Nat.le_refl _) _).setCell (Nat.le_refl _) _
          have hOW : ∀ i, i < 4 → OwnP ((((wr.setCell ⟨w.heap.size, 0, none⟩ (vs 0)).setCell ⟨w.heap.size, 1, none⟩ (vs 1)).setCell ⟨w.heap.size, 2, none⟩ (vs 2)).setCell ⟨w.heap.size, 3, none⟩ (vs 3)) (w.heap.size + 2) 233 2 RuE (vs i) (partL c i) := fun i hi =>
            ((((HR2.out.own i hi).setOther (a := ⟨w.heap.size, 0, none⟩) (by simp) _).setOther (a := ⟨w.heap.size, 1, none⟩) (by simp) _).setOther (a := ⟨w.heap.size, 2, none⟩) (by simp) _).setOther (a := ⟨w.heap.size, 3, none⟩) (by simp) _
          rw [G0.out, G1.out, G2.out, G3.out] at hW0 hBW
          simp only [G0.out, G1.out, G2.out, G3.out] at hOW
          clear c0 c1 c2 c3 z0 z1 z2 z3 d0 d1 d2 d3
          generalize ((((wr.setCell ⟨w.heap.size, 0, none⟩ (.slice A0 (partL c ((0 : Nat) : Int)).length m0)).setCell ⟨w.heap.size, 1, none⟩ (.slice A1 (partL c ((1 : Nat) : Int)).length m1)).setCell ⟨w.heap.size, 2, none⟩ (.slice A2 (partL c ((2 : Nat) : Int)).length m2)).setCell ⟨w.heap.size, 3, none⟩ (.slice A3 (partL c ((3 : Nat) : Int)).length m3)) = W at *
          have r0 : W.cell? ⟨w.heap.size, 0, none⟩ = some _ := (cell_cells (i := 0) hW0).trans rfl
          have r1 : W.cell? ⟨w.heap.size, 1, none⟩ = some _ := (cell_cells (i := 1) hW0).trans rfl
          have r2 : W.cell? ⟨w.heap.size, 2, none⟩ = some _ := (cell_cells (i := 2) hW0).trans rfl
          have r3 : W.cell? ⟨w.heap.size, 3, none⟩ = some _ := (cell_cells (i := 3) hW0).trans rfl
          refine bodyPost_ret (v := .tuple #[.agg #[vs 0, vs 1, vs 2, vs 3], .bool true]) (by simp [results, Tryz.results222, go_sem, r0, r1, r2, r3, G0.out, G1.out, G2.out, G3.out]) rfl ⟨vs, by rw [HT.out], fun i hi => by rw [HT.out]; exact ((hOW i hi).sla (by have := partL_len c i; unfold Big; simp; omega)).up (fun _ _ => rfl) (fun b hb => ⟨by have := hb.1; omega, hb.2.1⟩) (fun _ _ _ h => h), hBW⟩
end Go.Proofs.YtmphgnjodangcaaGreat

namespace Go.Proofs.YtmphgnjodangcaaGreat
open Go.RowKit
set_option maxRecDepth 100000

/-- How two texts compare. -/
def cmpS (a b : ByteArray) : Int := if ltS a b then -1 else if ltS b a then 1 else 0
theorem cmpsS_any (a b : ByteArray) (w : World) : Calls Tryz.prog 261 #[.string a, .string b] w fun e w' => e = .returned (.int .i64 (cmpS a b)) ∧ w = w' := by
  have hgt := ltS_gt b a
  have hE : Hid (cmpS a b = if Op.bytesLess a.toList b.toList then -1 else if ltS b a then 1 else 0) := rfl
  have hN1 : (!(a.toList == a.toList)) = false := by simp
  have hN2 : (!(b.toList == b.toList)) = false := by simp
  go_enter Tryz.func261, Tryz.ntmps261
  rcases g1 : Op.bytesLess a.toList b.toList
  · rcases g2 : (a.toList == b.toList)
    · have g3 : ¬ a.toList = b.toList := by simpa using g2
      have HR : Hid (cmpS a b = 1) := by unfold Hid; rw [hE.out, g1, hgt, g1, g2]; rfl
      clear hgt hE
      go_wp2
      go_ret
      exact ⟨ret_int HR.out.symm, rfl⟩
    · have g3 : a.toList = b.toList := by simpa using g2
      have HR : Hid (cmpS a b = 0) := by unfold Hid; rw [hE.out, g1, hgt, g1, g2]; rfl
      obtain rfl : a = b := (bytes_inj a b).1 g3
      clear hgt hE g3
      go_wp2
      go_ret
      exact ⟨ret_int HR.out.symm, rfl⟩
  · have HR : Hid (cmpS a b = -1) := by unfold Hid; rw [hE.out, g1]; rfl
    clear hgt hE
    go_wp2
    go_ret
    exact ⟨ret_int HR.out.symm, rfl⟩

/-- The greater one of two entries: of number, then of text. -/
def grtE (a b : En) : En := if orI (cmpI a.v b.v) (cmpS a.s b.s) < 0 then b else a

set_option maxHeartbeats 2000000 in
theorem greater_any (a b : En) (w : World) : Calls Tryz.prog 257 #[.agg #[.int .i64 a.dc, .int .i64 a.n, .string a.s, .int .i64 a.v], .agg #[.int .i64 b.dc, .int .i64 b.n, .string b.s, .int .i64 b.v]] w fun e w' => e = .returned (.agg #[.int .i64 (grtE a b).dc, .int .i64 (grtE a b).n, .string (grtE a b).s, .int .i64 (grtE a b).v]) ∧ Below w.heap.size w w' := by
  go_enter Tryz.func257, Tryz.ntmps257
  go_upto_region 1 with (fail)
  go_region_held3 (fun w' => w'.cell? ⟨w.heap.size, 1, none⟩ = some (.int .i64 a.n) ∧ w'.cell? ⟨w.heap.size, 2, none⟩ = some (.string a.s) ∧ w'.cell? ⟨w.heap.size, 3, none⟩ = some (.int .i64 a.v) ∧ w'.cell? ⟨w.heap.size + 1, 2, none⟩ = some (.string b.s) ∧ w'.cell? ⟨w.heap.size + 1, 3, none⟩ = some (.int .i64 b.v)) (go_keep)
    (first | (go_at_call 227; refine (cmp64_any _ _ _).mono ?_; rintro e w' ⟨rfl, rfl⟩) | (go_at_call 261; refine (cmpsS_any _ _ _).mono ?_; rintro e w' ⟨rfl, rfl⟩) | (go_at_call 279; refine (or2_any (cmpI a.v b.v) (cmpS a.s b.s) _ _ (by rw [World.cell?_drew, World.cell?_alloc_at _ _ _ _ (by simp)]; rfl) (by rw [World.cell?_drew, World.cell?_alloc_at _ _ _ _ (by simp)]; rfl)).mono ?_; rintro e w' ⟨rfl, rfl⟩))
  have hB : Below w.heap.size w (((((w.alloc (.cells #[.int .i64 a.dc, .int .i64 a.n, .string a.s, .int .i64 a.v] 142)).alloc (.cells #[.int .i64 b.dc, .int .i64 b.n, .string b.s, .int .i64 b.v] 142)).alloc (.cells #[.int .i64 0, .int .i64 0, .string ⟨#[]⟩, .int .i64 0] 142)).alloc (.cells #[.int .i64 (cmpI a.v b.v), .int .i64 (cmpS a.s b.s)] 3)).drew) := by go_grown
  have g0 : (((((w.alloc (.cells #[.int .i64 a.dc, .int .i64 a.n, .string a.s, .int .i64 a.v] 142)).alloc (.cells #[.int .i64 b.dc, .int .i64 b.n, .string b.s, .int .i64 b.v] 142)).alloc (.cells #[.int .i64 0, .int .i64 0, .string ⟨#[]⟩, .int .i64 0] 142)).alloc (.cells #[.int .i64 (cmpI a.v b.v), .int .i64 (cmpS a.s b.s)] 3)).drew).heap[w.heap.size]? = some (.cells #[.int .i64 a.dc, .int .i64 a.n, .string a.s, .int .i64 a.v] 142 (0, 0)) := (heap_old (by simp <;> omega)).trans ((heap_old (by simp <;> omega)).trans ((heap_old (by simp)).trans (heap_new rfl)))
  have g1 : (((((w.alloc (.cells #[.int .i64 a.dc, .int .i64 a.n, .string a.s, .int .i64 a.v] 142)).alloc (.cells #[.int .i64 b.dc, .int .i64 b.n, .string b.s, .int .i64 b.v] 142)).alloc (.cells #[.int .i64 0, .int .i64 0, .string ⟨#[]⟩, .int .i64 0] 142)).alloc (.cells #[.int .i64 (cmpI a.v b.v), .int .i64 (cmpS a.s b.s)] 3)).drew).heap[w.heap.size + 1]? = some (.cells #[.int .i64 b.dc, .int .i64 b.n, .string b.s, .int .i64 b.v] 142 (0, 0)) := (heap_old (by simp <;> omega)).trans ((heap_old (by simp)).trans (heap_new (by simp)))
  have g2 : (((((w.alloc (.cells #[.int .i64 a.dc, .int .i64 a.n, .string a.s, .int .i64 a.v] 142)).alloc (.cells #[.int .i64 b.dc, .int .i64 b.n, .string b.s, .int .i64 b.v] 142)).alloc (.cells #[.int .i64 0, .int .i64 0, .string ⟨#[]⟩, .int .i64 0] 142)).alloc (.cells #[.int .i64 (cmpI a.v b.v), .int .i64 (cmpS a.s b.s)] 3)).drew).heap[w.heap.size + 2]? = some (.cells #[.int .i64 0, .int .i64 0, .string ⟨#[]⟩, .int .i64 0] 142 (0, 0)) := (heap_old (by simp)).trans (heap_new (by simp))
  have a0 := cell_cells (i := 0) g0
  have a1 := cell_cells (i := 1) g0
  have a2 := cell_cells (i := 2) g0
  have a3 := cell_cells (i := 3) g0
  have b0 := cell_cells (i := 0) g1
  have b1 := cell_cells (i := 1) g1
  have b2 := cell_cells (i := 2) g1
  have b3 := cell_cells (i := 3) g1
  have k0 := cell_cells (i := 0) g2
  have k1 := cell_cells (i := 1) g2
  have k2 := cell_cells (i := 2) g2
  have k3 := cell_cells (i := 3) g2
  have z0 := cells_frz (i := 0) g2
  have z1 := cells_frz (i := 1) g2
  have z2 := cells_frz (i := 2) g2
  have z3 := cells_frz (i := 3) g2
  have HG := hid g2
  clear g0 g1 g2
  simp only [List.getElem?_toArray, List.getElem?_cons_zero, List.getElem?_cons_succ] at a0 a1 a2 a3 b0 b1 b2 b3 k0 k1 k2 k3
  generalize ((((w.alloc (.cells #[.int .i64 a.dc, .int .i64 a.n, .string a.s, .int .i64 a.v] 142)).alloc (.cells #[.int .i64 b.dc, .int .i64 b.n, .string b.s, .int .i64 b.v] 142)).alloc (.cells #[.int .i64 0, .int .i64 0, .string ⟨#[]⟩, .int .i64 0] 142)).alloc (.cells #[.int .i64 (cmpI a.v b.v), .int .i64 (cmpS a.s b.s)] 3)).drew = W at *
  have HGR : Hid (grtE a b = if orI (cmpI a.v b.v) (cmpS a.s b.s) < 0 then b else a) := rfl
  rcases hc : decide (orI (cmpI a.v b.v) (cmpS a.s b.s) < 0)
  · have HE : Hid (grtE a b = a) := by unfold Hid; rw [HGR.out, if_neg (of_decide_eq_false hc)]
    go_wp2_with fail
    have hW4 := cells_set (i := 3) (cells_set (i := 2) (cells_set (i := 1) (cells_set (i := 0) HG.out (.int .i64 a.dc)) (.int .i64 a.n)) (.string a.s)) (.int .i64 a.v)
    have r0 := (cell_cells (i := 0) hW4).trans (show _ = some (.int .i64 a.dc) by simp)
    have r1 := (cell_cells (i := 1) hW4).trans (show _ = some (.int .i64 a.n) by simp)
    have r2 := (cell_cells (i := 2) hW4).trans (show _ = some (.string a.s) by simp)
    have r3 := (cell_cells (i := 3) hW4).trans (show _ = some (.int .i64 a.v) by simp)
    refine bodyPost_ret (v := .agg #[.int .i64 a.dc, .int .i64 a.n, .string a.s, .int .i64 a.v]) (by simp [results, Tryz.results257, go_sem, r0, r1, r2, r3]) rfl ⟨by rw [HE.out], (((hB.setCell (by simp <;> omega) _).setCell (by simp <;> omega) _).setCell (by simp <;> omega) _).setCell (by simp <;> omega) _⟩
  · have HE : Hid (grtE a b = b) := by unfold Hid; rw [HGR.out, if_pos (of_decide_eq_true hc)]
    go_wp2_with fail
    have hW4 := cells_set (i := 3) (cells_set (i := 2) (cells_set (i := 1) (cells_set (i := 0) HG.out (.int .i64 b.dc)) (.int .i64 b.n)) (.string b.s)) (.int .i64 b.v)
    have r0 := (cell_cells (i := 0) hW4).trans (show _ = some (.int .i64 b.dc) by simp)
    have r1 := (cell_cells (i := 1) hW4).trans (show _ = some (.int .i64 b.n) by simp)
    have r2 := (cell_cells (i := 2) hW4).trans (show _ = some (.string b.s) by simp)
    have r3 := (cell_cells (i := 3) hW4).trans (show _ = some (.int .i64 b.v) by simp)
    refine bodyPost_ret (v := .agg #[.int .i64 b.dc, .int .i64 b.n, .string b.s, .int .i64 b.v]) (by simp [results, Tryz.results257, go_sem, r0, r1, r2, r3]) rfl ⟨by rw [HE.out], (((hB.setCell (by simp <;> omega) _).setCell (by simp <;> omega) _).setCell (by simp <;> omega) _).setCell (by simp <;> omega) _⟩
end Go.Proofs.YtmphgnjodangcaaGreat

namespace Go.Proofs.YtmphgnjodangcaaGreat
open Go.RowKit
set_option maxRecDepth 100000

theorem SlP.oneN {α : Type} {w : World} {o : Obj} {sz n : Nat} {E : α → List Value → Prop} {x : α} {cs : List Value} (hE : E x cs) (hl : cs.length = sz) (e : TypeId) (hn : n = w.heap.size + 1) :
    SlP ((w.alloc o).alloc (.cells cs.toArray e)) ((w.alloc o).alloc (.cells cs.toArray e)).heap.size sz E (.slice (some ⟨n, 0, none⟩) 1 1) [x] :=
  SlP.oneB hE hl e (hn.trans (World.size_alloc _ _).symm) (by rw [World.size_alloc, World.size_alloc]; omega)
/-- What ormap.Keys tells. -/
def keysOf (t : Tr) : List ByteArray := if t.right 5 then t.ks.map (·.1) else []
set_option maxHeartbeats 4000000 in
theorem okeys_any (t : Tr) (w : World) (ve vk : Value) (h : t.rd w w.heap.size ve vk) (hN : t.ks.length ≤ 900000) :
    Calls Tryz.prog 132 #[.agg #[ve, vk]] w (RetO w 9 1 (fun _ => StE) (keysOf t)) := by
  have HC : Hid (∀ w', Below w.heap.size w w' → t.rd w' w'.heap.size ve vk) := fun w' hb => rd_below hb hb.size _ _ _ h
  have HK0 : Hid (keysOf t = if t.right 5 then t.ks.map (·.1) else []) := rfl
  obtain ⟨es, ks⟩ := t
  rw [rd_iff] at h
  obtain ⟨⟨A0, n0, rfl, d1, d2, d3⟩, ⟨A, m, rfl, c1, c2, c3⟩⟩ := h
  unfold Big at c2 d2
  simp only [Tr.ks] at hN HK0 ⊢
  have hb0 : Below w.heap.size w (w.alloc (.cells #[.slice A0 es.length n0, .slice A ks.length m] 27)) := (Below.refl _ w).alloc (Nat.le_refl _) _
  go_enter Tryz.func132, Tryz.ntmps132
  go_wp2_with fail
  refine (tRight_any _ _ _ _ (HC.out _ hb0)).mono ?_
  rintro e w1 ⟨rfl, hb1⟩
  have hs1 := hb1.size
  simp only [World.size_alloc] at hs1
  have hB1 : Below w.heap.size w w1 := hb0.trans (hb1.mono (by simp))
  have b1 : w1.cell? ⟨w.heap.size, 1, none⟩ = some (.slice A ks.length m) := by rw [hb1.cell (p := ⟨w.heap.size, 1, none⟩) (by simp)]; simp
  cases hr : (Tr.mk es ks).right 5
  · have HK : Hid (keysOf (.mk es ks) = []) := by unfold Hid; rw [HK0.out, hr]; rfl
    clear hr
    go_wp2_with fail
    go_ret
    exact ⟨_, rfl, by rw [HK.out]; exact OwnP.nil, hB1⟩
  have HK : Hid (keysOf (.mk es ks) = ks.map (·.1)) := by unfold Hid; rw [HK0.out, hr]; rfl
  clear hr d3 d2 d1
  go_wp2_with fail
  go_loopw [3, 11] (fun v i wr => ∃ k : Nat, k ≤ ks.length ∧ i = .int .i64 k ∧ OwnP wr (w.heap.size + 1) 9 1 StE v ((ks.take k).map (·.1)) ∧ Below (w.heap.size + 1) w1 wr) (fun _ i _ => ks.length - (intOf i).toNat)
  case atStart => exact ⟨0, Nat.zero_le _, rfl, OwnP.nil, Below.refl _ _⟩
  case round =>
    obtain ⟨k, hk, rfl, hown, hb⟩ := hrel
    have hsz := hb.size
    have hB0 : Below w.heap.size w wr := hB1.trans (hb.mono (by omega))
    by_cases hlt : k < ks.length
    · obtain ⟨⟨key, t⟩, hx⟩ : ∃ x, ks[k]? = some x := ⟨_, List.getElem?_eq_getElem hlt⟩
      obtain ⟨b, off, rfl, hbB, hc⟩ := c3 (by rintro rfl; simp at hlt)
      obtain ⟨cs, ⟨ve', vk', rfl, hkb, hrd⟩, _, hu⟩ := hc k _ hx
      obtain ⟨A5, n5, A6, n6, rfl, rfl⟩ := rd_shape hrd
      have e0 : wr.cell? ⟨b, off + k * 3, none⟩ = some (.string key) := (hB0.cell hbB).trans (hu 0 _ rfl)
      have e1 : wr.cell? ⟨b, off + k * 3 + 1, none⟩ = some (.slice A5 t.es.length n5) := (hB0.cell hbB).trans (hu 1 _ rfl)
      have e2 : wr.cell? ⟨b, off + k * 3 + 2, none⟩ = some (.slice A6 t.ks.length n6) := (hB0.cell hbB).trans (hu 2 _ rfl)
      have HX : Hid ((ks.take (k + 1)).map (·.1) = (ks.take k).map (·.1) ++ [key]) := by unfold Hid; rw [List.take_add_one, hx]; simp
      have HL : Hid (((ks.take k).map (·.1)).length + [key].length ≤ Few) := by unfold Hid Few; simp; omega
      have HKY : Hid (StE key [.string key]) := ⟨rfl, hkb⟩
      clear hu hc c3 hx hrd hb0 hb1 b1
      go_wp2_with (at_builtin; go_loud ((with_reducible refine wpList_few rfl (.tmp 15) (.tmp 18) _ rfl eiStr (by decide) (by decide) (fun _ _ h => StE.one h) rfl ((hown.alloc _).alloc _) rfl (SlP.oneN (x := key) HKY.out rfl _ rfl) HL.out (by simp only [World.size_alloc]; omega) ?_); intro v1 w2 hown1 hb2 _; have hb3 := (((Below.refl (w.heap.size + 1) wr).alloc (by omega) _).alloc (by simp only [World.size_alloc]; omega) _).trans hb2))
      go_roundw
      case rel => exact ⟨k + 1, by omega, by go_num, by rw [HX.out]; exact hown1, hb.trans hb3⟩
      case measure => simp [intOf]; omega
    · obtain rfl : k = ks.length := by omega
      rw [List.take_of_length_le (Nat.le_refl _)] at hown
      go_wp2_with fail
      go_ret
      exact ⟨_, rfl, by rw [HK.out]; exact hown.mono (by omega), hB0⟩
end Go.Proofs.YtmphgnjodangcaaGreat

namespace Go.Proofs.YtmphgnjodangcaaGreat
open Go.RowKit
set_option maxRecDepth 100000

def inn (how : Int) (p q : Bool) : Bool := if how = 2 then p && !q else if how = 1 then p && q else p || q
def byOut (out : List (Int × Int)) (at' to' : Int) : List (Int × Int) :=
  match out.getLast? with
  | some r => if r.2 = at' - 1 then out.set (out.length - 1) (r.1, to' - 1) else out ++ [(at', to' - 1)]
  | none => [(at', to' - 1)]
def byGo (a b : List (Int × Int)) (how : Int) (ps : List Int) : Nat → Int × Bool → List (Int × Int) → List (Int × Int)
  | 0, _, out => out
  | n + 1, s, out => if s.2 then byGo a b how ps n (nextL ps s.1) (if inn how (hasL a s.1) (hasL b s.1) then byOut out s.1 (nextL ps s.1).1 else out) else out
def byL (a b : List (Int × Int)) (how : Int) : List (Int × Int) := byGo a b how (endsL a ++ endsL b) ((endsL a ++ endsL b).length + 1) (nextL (endsL a ++ endsL b) 0) []
def cnt (ps : List Int) (x : Int) : Nat := (ps.filter fun y => decide (x ≤ y)).length

theorem byGo_false (a b : List (Int × Int)) (how : Int) (ps : List Int) (n : Nat) (x : Int) (out : List (Int × Int)) : byGo a b how ps n (x, false) out = out := by
  cases n <;> simp [byGo]

theorem nextL_mem : ∀ (l : List Int) (above : Int) (s : Int × Bool), (s.2 = true → above < s.1) → (l.foldl (nextS above) s = s ∨ (l.foldl (nextS above) s).1 ∈ l) ∧ ((l.foldl (nextS above) s).2 = true → above < (l.foldl (nextS above) s).1)
  | [], _, s, hs => ⟨.inl rfl, hs⟩
  | x :: l, above, s, hs => by
    simp only [List.foldl_cons]
    by_cases hc : above < x ∧ (s.2 = false ∨ x < s.1)
    · have e : nextS above s x = (x, true) := by simp [nextS, hc]
      rw [e]
      obtain ⟨h1, h2⟩ := nextL_mem l above (x, true) (fun _ => hc.1)
      refine ⟨.inr ?_, h2⟩
      rcases h1 with h1 | h1
      · rw [h1]; simp
      · exact List.mem_cons_of_mem _ h1
    · have e : nextS above s x = s := by simp only [nextS, if_neg hc]
      rw [e]
      obtain ⟨h1, h2⟩ := nextL_mem l above s hs
      refine ⟨?_, h2⟩
      rcases h1 with h1 | h1
      · exact .inl h1
      · exact .inr (List.mem_cons_of_mem _ h1)
theorem nextL_spec {l : List Int} {above : Int} (h : (nextL l above).2 = true) : (nextL l above).1 ∈ l ∧ above < (nextL l above).1 := by
  obtain ⟨h1, h2⟩ := nextL_mem l above (0, false) (fun h => by cases h)
  refine ⟨?_, h2 h⟩
  rcases h1 with h1 | h1
  · unfold nextL at h; rw [h1] at h; cases h
  · exact h1
theorem nextL_bd {l : List Int} {above lo hi : Int} (hl : ∀ x ∈ l, lo ≤ x ∧ x ≤ hi) (h0 : lo ≤ 0) (h1 : 0 ≤ hi) : lo ≤ (nextL l above).1 ∧ (nextL l above).1 ≤ hi := by
  obtain ⟨h2, _⟩ := nextL_mem l above (0, false) (fun h => by cases h)
  rcases h2 with h2 | h2
  · unfold nextL; rw [h2]; exact ⟨h0, h1⟩
  · exact hl _ h2
theorem cnt_lt {l : List Int} {x y : Int} (hx : x ∈ l) (h : x < y) : cnt l y < cnt l x := by
  unfold cnt
  induction l with
  | nil => cases hx
  | cons z l ih =>
    have hle : (l.filter fun u => decide (y ≤ u)).length ≤ (l.filter fun u => decide (x ≤ u)).length := by
      clear ih hx
      induction l with
      | nil => simp
      | cons u l ih =>
        simp only [List.filter_cons]
        by_cases h1 : y ≤ u
        · have : x ≤ u := by omega
          simp [h1, this]; exact ih
        · by_cases h2 : x ≤ u
          · simp [h1, h2]; omega
          · simp [h1, h2]; exact ih
    simp only [List.filter_cons]
    rcases List.mem_cons.1 hx with rfl | hx
    · have : ¬ y ≤ x := by omega
      simp [this]; omega
    · have := ih hx
      by_cases h1 : y ≤ z
      · have : x ≤ z := by omega
        simp [h1, this]; omega
      · by_cases h2 : x ≤ z
        · simp [h1, h2]; omega
        · simp [h1, h2]; omega
theorem cnt_pos {l : List Int} {x : Int} (hx : x ∈ l) : 0 < cnt l x := by
  unfold cnt; exact List.length_pos_of_mem (List.mem_filter.2 ⟨hx, by simp⟩)
theorem cnt_le (l : List Int) (x : Int) : cnt l x ≤ l.length := List.length_filter_le _ _
theorem endsL_len (l : List (Int × Int)) : (endsL l).length = 2 * l.length := by
  unfold endsL; rw [List.length_flatMap]; simp [List.map_const']; omega

end Go.Proofs.YtmphgnjodangcaaGreat

namespace Go.Proofs.YtmphgnjodangcaaGreat
open Go.RowKit
set_option maxRecDepth 100000

def ofOut (out : List (Int × Int)) (x : Int) : List (Int × Int) :=
  match out.getLast? with
  | some r => if r.2 = x - 1 then out.set (out.length - 1) (r.1, x) else out ++ [(x, x)]
  | none => [(x, x)]
def ofGo (ps : List Int) : Nat → Int × Bool → List (Int × Int) → List (Int × Int)
  | 0, _, out => out
  | n + 1, s, out => if s.2 then ofGo ps n (nextL ps s.1) (ofOut out s.1) else out
def ofL (ps : List Int) : List (Int × Int) := ofGo ps (ps.length + 1) (nextL ps 0) []
theorem ofGo_false (ps : List Int) (n : Nat) (x : Int) (out : List (Int × Int)) : ofGo ps n (x, false) out = out := by
  cases n <;> simp [ofGo]
theorem ofOut_len (out : List (Int × Int)) (x : Int) : (ofOut out x).length ≤ out.length + 1 := by
  unfold ofOut
  cases h : out.getLast? with
  | none => simp
  | some r => dsimp only; split <;> simp
theorem ofGo_len (ps : List Int) : ∀ (n : Nat) (s : Int × Bool) (out : List (Int × Int)), (ofGo ps n s out).length ≤ out.length + n
  | 0, s, out => by simp [ofGo]
  | n + 1, s, out => by
    rw [ofGo]
    split
    · have := ofGo_len ps n (nextL ps s.1) (ofOut out s.1); have := ofOut_len out s.1; omega
    · omega
theorem ofL_len (ps : List Int) : (ofL ps).length ≤ ps.length + 1 := by have := ofGo_len ps (ps.length + 1) (nextL ps 0) []; simpa [ofL] using this

set_option maxHeartbeats 4000000 in
theorem r06of_any (ps : List Int) (vp : Value) (w : World) (hsp : SlP w w.heap.size 1 InE vp ps) (hN : ps.length ≤ 400000) (hps : ∀ x ∈ ps, 0 ≤ x ∧ x ≤ 1099511627778) :
    Calls Tryz.prog 221 #[vp] w (RetO w 221 2 (fun _ => RuE) (ofL ps)) := by
  have HY : Hid (ofL ps = ofGo ps (ps.length + 1) (nextL ps 0) []) := rfl
  have HBD : Hid (∀ x, 0 ≤ (nextL ps x).1 ∧ (nextL ps x).1 ≤ 1099511627778) := fun x => nextL_bd hps (by omega) (by omega)
  have HMH : Hid (∀ x, x ∈ ps → ∀ n, (cnt ps x ≤ n + 1) → (nextL ps x).2 = true → (nextL ps x).1 ∈ ps ∧ cnt ps (nextL ps x).1 ≤ n) := fun x hx n hc h => ⟨(nextL_spec h).1, by have := cnt_lt hx (nextL_spec h).2; omega⟩
  have HM0H : Hid ((nextL ps 0).2 = true → (nextL ps 0).1 ∈ ps ∧ cnt ps (nextL ps 0).1 ≤ ps.length + 1) := fun h => ⟨(nextL_spec h).1, by have := cnt_le ps (nextL ps 0).1; omega⟩
  clear hps
  go_enter Tryz.func221, Tryz.ntmps221
  go_wp2_with (go_at_call 250; with_reducible refine (r06next_any ps 0 vp w _ hsp).mono ?_; rintro e wx ⟨rfl, rfl⟩)
  go_loopg [3, 4, 5] (ps.length + 1) (fun n vo vx vk wr => ∃ (outL : List (Int × Int)) (x : Int) (k : Bool), OwnP wr w.heap.size 221 2 RuE vo outL ∧ vx = .int .i64 x ∧ vk = .bool k ∧ 0 ≤ x ∧ x ≤ 1099511627778 ∧ Below w.heap.size w wr ∧
    Hid (ofGo ps n (x, k) outL = ofL ps) ∧ Hid (k = true → x ∈ ps ∧ cnt ps x ≤ n) ∧ Hid (outL.length + n ≤ ps.length + 1))
  case atStart => exact ⟨[], _, _, OwnP.nil, rfl, rfl, (HBD.out 0).1, (HBD.out 0).2, Below.refl _ _, HY.out.symm, HM0H.out, by unfold Hid; simp⟩
  case round =>
    obtain ⟨outL, x, k, hown, rfl, rfl, hx0, hx1, hbr, hrel, hmem, hlen⟩ := hrel
    have hsz := hbr.size
    cases k
    · have hr := hrel.out
      rw [ofGo_false] at hr
      have HR := hid hr
      clear hr
      go_wp2_with fail
      go_ret
      exact ⟨_, rfl, by rw [← HR.out]; exact hown, hbr⟩
    · obtain ⟨n, rfl⟩ : ∃ n, gk = n + 1 := ⟨gk - 1, by have := hmem.out rfl; have := cnt_pos this.1; omega⟩
      have HMM := hid (hmem.out rfl)
      have HI : Hid (ofGo ps n (nextL ps x) (ofOut outL x) = ofL ps) := hrel.out
      have HPR : Hid (∀ w', Below w.heap.size w w' → SlP w' w.heap.size 1 InE vp ps) := fun w' hb' => hsp.imp hb' (Nat.le_refl _) fun _ _ _ h => h
      have JN : Hid (RuE (x, x) [.int .i64 x, .int .i64 x]) := ⟨rfl, ⟨by omega, by omega⟩, ⟨by show _ ≤ x; omega, by show x ≤ _; omega⟩⟩
      have HNX : Hid ((nextL ps x).2 = true → (nextL ps x).1 ∈ ps ∧ cnt ps (nextL ps x).1 ≤ n) := fun h => HMH.out x HMM.out.1 n HMM.out.2 h
      have HL : Hid (outL.length + [(x, x)].length ≤ Few) := by have := hlen.out; unfold Hid Few; simp; omega
      have hob : outL.length ≤ 400001 := by have := hlen.out; omega
      rcases Nat.eq_zero_or_pos outL.length with hz | hz
      · obtain rfl : outL = [] := List.eq_nil_of_length_eq_zero hz
        have HO : Hid (ofOut [] x = [] ++ [(x, x)]) := rfl
        obtain ⟨A8, c8, rfl⟩ := hown.shape
        clear hz
        simp only [List.length_nil] at hown ⊢
        have HL : Hid (([] : List (Int × Int)).length + [(x, x)].length ≤ Few) := by unfold Hid Few; simp
        go_wp2_with (first | (at_builtin; with_reducible refine wpList_few rfl (.tmp 34) (.tmp 38) _ rfl eiPair (by decide) (by decide) (fun _ _ h => h.one) rfl (hown.alloc _) rfl (SlP.one (x := (x, x)) JN.out rfl _ rfl) HL.out (by rw [World.size_alloc]; omega) ?_; intro v1 w1 hown1 hb1 _) | (go_at_call 250; with_reducible refine (r06next_any ps x vp _ _ (HPR.out _ ((hbr.alloc hsz _).trans hb1))).mono ?_; rintro e wx ⟨rfl, rfl⟩))
        go_roundg n
        case measure => omega
        case rel => exact ⟨[] ++ [(x, x)], _, _, hown1, rfl, rfl, HBD.out x |>.1, HBD.out x |>.2, (hbr.alloc hsz _).trans hb1, by have := HI.out; rw [HO.out] at this; exact this, HNX.out, by have := hlen.out; unfold Hid; simp at this ⊢; omega⟩
      obtain ⟨r, hr⟩ : ∃ r, outL[outL.length - 1]? = some r := ⟨_, List.getElem?_eq_getElem (by omega)⟩
      obtain ⟨g, cap, rfl, hg1, hg2, c0, c1, hfz, hset⟩ := hown.setRun hr (z := x) ⟨by omega, by omega⟩
      have hfz1 := hfz ((outL.length - 1) * 2 + 1)
      have HBO : Hid (ofOut outL x = if r.2 = x - 1 then outL.set (outL.length - 1) (r.1, x) else outL ++ [(x, x)]) := by
        unfold Hid ofOut; rw [List.getLast?_eq_getElem?, hr]
      clear hr hfz
      by_cases hq : r.2 = x - 1
      · have HO : Hid (ofOut outL x = outL.set (outL.length - 1) (r.1, x)) := by unfold Hid; rw [HBO.out, if_pos hq]
        have hq' : (r.2 == x - 1) = true := by simpa using hq
        have HQ := hid hq
        have HS := hid hset
        clear hq hset
        go_wp2_with (go_at_call 250; with_reducible refine (r06next_any ps x vp _ _ (HPR.out _ (hbr.setCell (by exact hg1) _))).mono ?_; rintro e wx ⟨rfl, rfl⟩)
        go_roundg n
        case measure => omega
        case rel => exact ⟨outL.set (outL.length - 1) (r.1, x), _, _, HS.out, rfl, rfl, HBD.out x |>.1, HBD.out x |>.2, hbr.setCell (by exact hg1) _, by have := HI.out; rw [HO.out] at this; exact this, HNX.out, by have := hlen.out; unfold Hid; rw [List.length_set]; omega⟩
      · have HO : Hid (ofOut outL x = outL ++ [(x, x)]) := by unfold Hid; rw [HBO.out, if_neg hq]
        have hq' : (r.2 == x - 1) = false := by simpa using hq
        have HQ := hid hq
        clear hq hset
        go_wp2_with (first | (at_builtin; with_reducible refine wpList_few rfl (.tmp 34) (.tmp 38) _ rfl eiPair (by decide) (by decide) (fun _ _ h => h.one) rfl (hown.alloc _) rfl (SlP.one (x := (x, x)) JN.out rfl _ rfl) HL.out (by rw [World.size_alloc]; omega) ?_; intro v1 w1 hown1 hb1 _) | (go_at_call 250; with_reducible refine (r06next_any ps x vp _ _ (HPR.out _ ((hbr.alloc hsz _).trans hb1))).mono ?_; rintro e wx ⟨rfl, rfl⟩))
        go_roundg n
        case measure => omega
        case rel => exact ⟨outL ++ [(x, x)], _, _, hown1, rfl, rfl, HBD.out x |>.1, HBD.out x |>.2, (hbr.alloc hsz _).trans hb1, by have := HI.out; rw [HO.out] at this; exact this, HNX.out, by have := hlen.out; unfold Hid; simp at this ⊢; omega⟩

end Go.Proofs.YtmphgnjodangcaaGreat

namespace Go.Proofs.YtmphgnjodangcaaGreat
open Go.RowKit
set_option maxRecDepth 100000

theorem byOut_len (out : List (Int × Int)) (x y : Int) : (byOut out x y).length ≤ out.length + 1 := by
  unfold byOut
  cases h : out.getLast? with
  | none => simp
  | some r => dsimp only; split <;> simp
theorem byGo_len (a b : List (Int × Int)) (how : Int) (ps : List Int) : ∀ (n : Nat) (s : Int × Bool) (out : List (Int × Int)), (byGo a b how ps n s out).length ≤ out.length + n
  | 0, s, out => by simp [byGo]
  | n + 1, s, out => by
    rw [byGo]
    split
    · have h1 := byGo_len a b how ps n (nextL ps s.1) (if inn how (hasL a s.1) (hasL b s.1) then byOut out s.1 (nextL ps s.1).1 else out)
      have h2 := byOut_len out s.1 (nextL ps s.1).1
      split at h1 <;> rename_i hc
      · rw [if_pos hc]; omega
      · rw [if_neg hc]; omega
    · omega
theorem byL_len (a b : List (Int × Int)) (how : Int) : (byL a b how).length ≤ 2 * a.length + 2 * b.length + 1 := by
  have := byGo_len a b how (endsL a ++ endsL b) ((endsL a ++ endsL b).length + 1) (nextL (endsL a ++ endsL b) 0) []
  have h1 := endsL_len a
  have h2 := endsL_len b
  simp at this
  unfold byL
  simp
  omega

/-- All numbers of a context are right. -/
def SpsOk (c : List Sp) : Prop := ∀ s ∈ c, 0 ≤ s.fr ∧ s.fr ≤ 1099511627777 ∧ 0 ≤ s.hi ∧ s.hi ≤ 1099511627777
def ctxByK (a b : List Sp) (how : Int) (k : Nat) : List Sp := (List.range k).flatMap fun (dc : Nat) => spansL (dc : Int) (byL (partL a dc) (partL b dc) how)
def ctxBy (a b : List Sp) (how : Int) : List Sp := ctxByK a b how 4
theorem ctxByK_len (a b : List Sp) (how : Int) : ∀ k, (ctxByK a b how k).length ≤ k * (2 * a.length + 2 * b.length + 1)
  | 0 => by simp [ctxByK]
  | k + 1 => by
    have h := ctxByK_len a b how k
    have h1 := byL_len (partL a k) (partL b k) how
    have h2 := partL_len a k
    have h3 := partL_len b k
    unfold ctxByK at *
    rw [List.range_succ, List.flatMap_append, List.length_append, Nat.add_mul]
    simp only [List.flatMap_cons, List.flatMap_nil, List.append_nil, spansL, List.length_map] at *
    omega

def numsL (l : List Dt) (dc : Int) : List Int := (l.filter fun d => d.dc == dc).map fun d => d.n
def ctxOfK (l : List Dt) (k : Nat) : List Sp := (List.range k).flatMap fun (dc : Nat) => spansL (dc : Int) (ofL (numsL l dc))
def ctxOf (l : List Dt) : List Sp := ctxOfK l 4
theorem numsL_take {c : List Dt} {k : Nat} {x : Dt} (h : c[k]? = some x) (dc : Int) : numsL (c.take (k + 1)) dc = numsL (c.take k) dc ++ (if x.dc = dc then [x.n] else []) := by
  unfold numsL
  rw [List.take_add_one, h]
  by_cases hd : x.dc = dc <;> simp [hd]
theorem numsL_len (c : List Dt) (dc : Int) : (numsL c dc).length ≤ c.length := by
  unfold numsL; rw [List.length_map]; exact List.length_filter_le _ _
theorem ctxOfK_len (l : List Dt) : ∀ k, (ctxOfK l k).length ≤ k * (l.length + 1)
  | 0 => by simp [ctxOfK]
  | k + 1 => by
    have h := ctxOfK_len l k
    have h1 := ofL_len (numsL l k)
    have h2 := numsL_len l k
    unfold ctxOfK at *
    rw [List.range_succ, List.flatMap_append, List.length_append, Nat.add_mul]
    simp only [List.flatMap_cons, List.flatMap_nil, List.append_nil, spansL, List.length_map] at *
    omega

set_option maxHeartbeats 2000000 in
theorem r07of_any (l : List Dt) (vl : Value) (w : World) (hl : SlP w w.heap.size 2 DtE vl l) (hN : l.length ≤ 100000) (hR : ∀ d ∈ l, 0 ≤ d.n ∧ d.n ≤ 1099511627778) :
    Calls Tryz.prog 183 #[vl] w (RetO w 47 3 (fun _ => SpE) (ctxOf l)) := by
  obtain ⟨A, n, rfl, b1, b2, b3⟩ := hl
  unfold Big at b2
  go_enter Tryz.func183, Tryz.ntmps183
  go_wp2_with fail
  go_loopw [3, 7] (fun v i wr => ∃ k : Nat, k ≤ 4 ∧ i = .int .i64 k ∧ OwnP wr w.heap.size 47 3 SpE v (ctxOfK l k) ∧ Below w.heap.size w wr) (fun _ i _ => 4 - (intOf i).toNat)
  case atStart => exact ⟨0, Nat.zero_le _, rfl, OwnP.nil, Below.refl _ _⟩
  case round =>
    obtain ⟨k, hk, rfl, hown, hbr⟩ := hrel
    have hsz := hbr.size
    by_cases hlt : k < 4
    · have HL : Hid ((ctxOfK l k).length + (spansL (k : Int) (ofL (numsL l k))).length ≤ Few) := by
        have h1 := ofL_len (numsL l k)
        have h2 := numsL_len l k
        have hcl := ctxOfK_len l k
        have : k * (l.length + 1) ≤ 3 * (l.length + 1) := Nat.mul_le_mul_right _ (by omega)
        unfold Hid Few spansL; rw [List.length_map]; omega
      have HX : Hid (ctxOfK l (k + 1) = ctxOfK l k ++ spansL (k : Int) (ofL (numsL l k))) := by
        unfold Hid ctxOfK; rw [List.range_succ, List.flatMap_append]; simp
      have hlen := numsL_len l k
      have hlt' : decide ((k : Int) < 4) = true := by simp; omega
      go_wp2_with fail
      obtain ⟨wo, rfl⟩ : ∃ wo : World, wo = wr := ⟨_, rfl⟩
      go_loopw [5, 12] (fun v i wr => ∃ j : Nat, j ≤ l.length ∧ i = .int .i64 j ∧ OwnP wr wo.heap.size 2 1 InE v (numsL (l.take j) k) ∧ Below wo.heap.size wo wr) (fun _ i _ => l.length - (intOf i).toNat)
      case atStart => exact ⟨0, Nat.zero_le _, rfl, OwnP.nil, Below.refl _ _⟩
      case round =>
        obtain ⟨j, hj, rfl, hin, hbi⟩ := hrel
        have hsi := hbi.size
        by_cases hjl : j < l.length
        · obtain ⟨x, hx⟩ : ∃ x, l[j]? = some x := ⟨_, List.getElem?_eq_getElem hjl⟩
          obtain ⟨b, off, rfl, hbB, hc⟩ := b3 (by rintro rfl; simp at hjl)
          obtain ⟨cs, ⟨rfl, hok⟩, _, hu⟩ := hc j _ hx
          have e0 : wr.cell? ⟨b, off + j * 2, none⟩ = some (.int .i64 x.dc) := ((hbi.cell (by show b < _; omega)).trans (hbr.cell hbB)).trans (hu 0 _ rfl)
          have e1 : wr.cell? ⟨b, off + j * 2 + 1, none⟩ = some (.int .i64 x.n) := ((hbi.cell (by show b < _; omega)).trans (hbr.cell hbB)).trans (hu 1 _ rfl)
          have HT := hid (numsL_take hx k)
          have HLI : Hid ((numsL (l.take j) k).length + [x.n].length ≤ Few) := by
            have := numsL_len (l.take j) k
            unfold Hid Few; simp at this ⊢; omega
          have JN : Hid (InE x.n [.int .i64 x.n]) := ⟨rfl, hok.n⟩
          clear hu hx hc b3 hok
          by_cases hd : x.dc = k
          · have hd' : (x.dc == (k : Int)) = true := by simpa using hd
            have HD := hid hd
            clear hd
            go_wp2_with (at_builtin; with_reducible refine wpList_few rfl (.tmp 22) (.tmp 28) _ rfl eiInt64 (by decide) (by decide) (fun _ _ h => h.one) rfl (hin.alloc _) rfl (SlP.one JN.out rfl _ rfl) HLI.out (by rw [World.size_alloc]; omega) ?_; intro v1 w1 hown1 hb1 _)
            go_roundw
            case rel => exact ⟨j + 1, by omega, by go_num, by rw [HT.out, if_pos HD.out]; exact hown1, (hbi.alloc hsi _).trans hb1⟩
            case measure => simp [intOf]; omega
          · have hd' : (x.dc == (k : Int)) = false := by simpa using hd
            have HD := hid hd
            clear hd
            go_wp2_with fail
            go_roundw
            case rel => exact ⟨j + 1, by omega, by go_num, by rw [HT.out, if_neg HD.out, List.append_nil]; exact hin, hbi⟩
            case measure => simp [intOf]; omega
        · obtain rfl : j = l.length := by omega
          rw [List.take_of_length_le (Nat.le_refl _)] at hin
          have sin := hin.sl (by unfold Big; omega)
          have hnr : Hid (∀ x ∈ numsL l k, 0 ≤ x ∧ x ≤ 1099511627778) := fun x hx => by
            unfold numsL at hx
            obtain ⟨d, hd, rfl⟩ := List.mem_map.1 hx
            exact hR d (List.mem_filter.1 hd).1
          clear hin
          go_wp2_with fail
          refine (r06of_any (numsL l k) _ wr sin (by omega) hnr.out).mono ?_
          rintro e w1 ⟨v1, rfl, ho1, hb1⟩
          have hs1 := hb1.size
          have hol := ofL_len (numsL l k)
          have s1 := ho1.sl (by unfold Big; omega)
          clear ho1
          go_wp2_with fail
          refine (r07spans_any _ k v1 w1 s1 (by omega) ⟨by omega, by omega⟩).mono ?_
          rintro e w4 ⟨v4, rfl, ho4, hb4⟩
          have hs4 := hb4.size
          have s4 := ho4.sl (by have := HL.out; unfold Few at this; unfold Big; omega)
          have hB4 : Below wo.heap.size wo w4 := (hbi.trans (hb1.mono hsi)).trans (hb4.mono (by omega))
          clear ho4
          go_wp2_with (at_builtin; with_reducible refine wpList_few rfl (.tmp 31) (.tmp 35) _ rfl eiSpan (by decide) (by decide) (fun _ _ h => h.one) rfl (hown.grow hB4) rfl s4 HL.out (by omega) ?_; intro v5 w5 hown5 hb5 _)
          go_roundw
          case rel => exact ⟨k + 1, by omega, by go_num, by rw [HX.out]; exact hown5, (hbr.trans (hB4.mono hsz)).trans hb5⟩
          case measure => simp [intOf]; omega
    · obtain rfl : k = 4 := by omega
      go_wp2_with fail
      go_ret
      exact ⟨_, rfl, hown, hbr⟩

end Go.Proofs.YtmphgnjodangcaaGreat

namespace Go.Proofs.YtmphgnjodangcaaGreat
open Go.RowKit
set_option maxRecDepth 100000

theorem SlA.nil {α : Type} {w : World} {ok : Nat → Prop} {sz : Nat} {E : α → List Value → Prop} : SlA w ok sz E (.slice none 0 0) ([] : List α) := ⟨none, 0, rfl, Nat.le_refl _, by simp, fun h => absurd rfl h⟩

theorem r08leaves_any (t : Tr) (w : World) (ve vk : Value) (h : t.rd w w.heap.size ve vk) (hN : t.sz ≤ 100000) :
    Calls Tryz.prog 110 #[.agg #[ve, vk]] w (RetD w 147 5 LfA (fun _ => False) (t.lvs [])) := by
  obtain ⟨A3, n3, A4, n4, rfl, rfl⟩ := rd_shape h
  have hr := rd_below ((Below.refl _ w).alloc (Nat.le_refl _) (.cells #[.slice A3 t.es.length n3, .slice A4 t.ks.length n4] 27)) (by simp : w.heap.size ≤ (w.alloc (.cells #[.slice A3 t.es.length n3, .slice A4 t.ks.length n4] 27)).heap.size) _ _ _ h
  have HR := hid hr
  clear hr h
  go_enter Tryz.func110, Tryz.ntmps110
  go_wp2_with fail
  refine (r08below_any t [] (fun _ => False) _ _ _ _ HR.out SlA.nil (fun _ h => h.elim) (by simpa using hN)).mono ?_
  rintro e w1 ⟨v, rfl, hv, hb⟩
  have hs := hb.size
  simp only [World.size_alloc] at hs hb
  go_wp2_with fail
  go_ret
  refine ⟨v, rfl, (hv.mono (by simp)).weak LfA.mon fun b hb => ?_, ((Below.refl _ w).alloc (Nat.le_refl _) _).trans (hb.mono (by omega))⟩
  rcases hb with h | h
  · exact h.elim
  · refine .inr ?_; rw [World.size_alloc] at h; omega

mutual
theorem lvs_dots : ∀ (t : Tr) (p : List ByteArray), (t.lvs p).map (fun x => x.2.dot) = t.dots
  | .mk es ks, p => by rw [Tr.lvs, Tr.dots, List.map_append, lvsL_dots ks p, List.map_map]; rfl
theorem lvsL_dots : ∀ (ks : List (ByteArray × Tr)) (p : List ByteArray), (Tr.lvsL ks p).map (fun x => x.2.dot) = Tr.dotsL ks
  | [], p => by rw [Tr.lvsL, Tr.dotsL]; rfl
  | (k, t) :: ks, p => by rw [Tr.lvsL, Tr.dotsL, List.map_append, lvs_dots t, lvsL_dots ks]
end
theorem dots_len (t : Tr) : t.dots.length ≤ t.sz := by rw [← lvs_dots t [], List.length_map]; exact lvs_len t []

set_option maxHeartbeats 1000000 in
theorem r08dots_any (t : Tr) (w : World) (ve vk : Value) (h : t.rd w w.heap.size ve vk) (hN : t.sz ≤ 90000) (hR : ∀ d ∈ t.dots, 0 ≤ d.n ∧ d.n ≤ 1099511627778) :
    Calls Tryz.prog 123 #[.agg #[ve, vk]] w (RetO w 47 3 (fun _ => SpE) (ctxOf t.dots)) := by
  obtain ⟨A3, n3, A4, n4, rfl, rfl⟩ := rd_shape h
  have hr := rd_below ((Below.refl _ w).alloc (Nat.le_refl _) (.cells #[.slice A3 t.es.length n3, .slice A4 t.ks.length n4] 27)) (by simp : w.heap.size ≤ (w.alloc (.cells #[.slice A3 t.es.length n3, .slice A4 t.ks.length n4] 27)).heap.size) _ _ _ h
  have HR := hid hr
  have hll := lvs_len t []
  have hdl := dots_len t
  have hld := hid (lvs_dots t [])
  clear hr h
  go_enter Tryz.func123, Tryz.ntmps123
  go_wp2_with fail
  refine (r08leaves_any t _ _ _ HR.out (by omega)).mono ?_
  rintro e w1 ⟨v, rfl, hv, hb1⟩
  have hs1 := hb1.size
  simp only [World.size_alloc] at hs1 hb1
  have hB1 : Below w.heap.size w w1 := ((Below.refl _ w).alloc (Nat.le_refl _) _).trans (hb1.mono (by omega))
  obtain ⟨A, c, rfl, l1, l2, l3⟩ := hv.sl LfA.mon (by unfold Big; omega)
  unfold Big at l2
  clear hv
  go_wp2_with fail
  go_loopw [3, 10] (fun v i wr => ∃ k : Nat, k ≤ (t.lvs []).length ∧ i = .int .i64 k ∧ OwnP wr w1.heap.size 54 2 DtE v (((t.lvs []).take k).map (fun x => x.2.dot)) ∧ Below w1.heap.size w1 wr) (fun _ i _ => (t.lvs []).length - (intOf i).toNat)
  case atStart => exact ⟨0, Nat.zero_le _, rfl, OwnP.nil, Below.refl _ _⟩
  case round =>
    obtain ⟨k, hk, rfl, hown, hb⟩ := hrel
    have hsz := hb.size
    by_cases hlt : k < (t.lvs []).length
    · obtain ⟨x, hx⟩ : ∃ x, (t.lvs [])[k]? = some x := ⟨_, List.getElem?_eq_getElem hlt⟩
      obtain ⟨b, off, rfl, hbB, hc⟩ := l3 (by intro e; rw [e] at hlt; simp at hlt)
      obtain ⟨cs, ⟨A7, c7, rfl, _, hok⟩, _, hu⟩ := hc k _ hx
      have e0 : wr.cell? ⟨b, off + k * 5 + 1, none⟩ = some (.int .i64 x.2.dc) := (hb.cell hbB).trans (hu 1 _ rfl)
      have e1 : wr.cell? ⟨b, off + k * 5 + 2, none⟩ = some (.int .i64 x.2.n) := (hb.cell hbB).trans (hu 2 _ rfl)
      have HX : Hid (((t.lvs []).take (k + 1)).map (fun x => x.2.dot) = ((t.lvs []).take k).map (fun x => x.2.dot) ++ [x.2.dot]) := by
        unfold Hid; rw [List.take_add_one, hx]; simp
      have HL : Hid ((((t.lvs []).take k).map (fun x => x.2.dot)).length + [x.2.dot].length ≤ Few) := by unfold Hid Few; simp; omega
      have JN : Hid (DtE x.2.dot [.int .i64 x.2.dc, .int .i64 x.2.n]) := ⟨rfl, hok.dc, hok.n⟩
      clear hu hx hc l3 hok
      go_wp2_with (at_builtin; with_reducible refine wpList_few rfl (.tmp 13) (.tmp 20) _ rfl eiDot (by decide) (by decide) (fun _ _ h => h.one) rfl (hown.alloc _) rfl (SlP.one JN.out rfl _ rfl) HL.out (by rw [World.size_alloc]; omega) ?_; intro v1 w2 hown1 hb2 _)
      go_roundw
      case rel => exact ⟨k + 1, by omega, by go_num, by rw [HX.out]; exact hown1, (hb.alloc (by omega) _).trans hb2⟩
      case measure => simp [intOf]; omega
    · obtain rfl : k = (t.lvs []).length := by omega
      rw [List.take_of_length_le (Nat.le_refl _), hld.out] at hown
      have sown := hown.sl (by unfold Big; omega)
      clear hown
      go_wp2_with fail
      refine (r07of_any t.dots _ wr sown (by omega) hR).mono ?_
      rintro e w3 ⟨v3, rfl, hv3, hb3⟩
      go_wp2_with fail
      go_ret
      exact ⟨v3, rfl, hv3.mono (by omega), (hB1.trans (hb.mono (by omega))).trans (hb3.mono (by omega))⟩
end Go.Proofs.YtmphgnjodangcaaGreat

namespace Go.Proofs.YtmphgnjodangcaaGreat
open Go.RowKit
set_option maxRecDepth 100000

/-- The longest path. -/
def deepL (l : List Lf) : Nat := (l.map fun x => x.1.length).sum
def buildL (l : List Lf) : Tr := buildT (deepL l) l
def getL (l : List Lf) (p : List ByteArray) : List Lf := p.foldl underL l
def getT (t : Tr) (p : List ByteArray) : Tr := buildL (getL (t.lvs []) p)
theorem box_tree {w : World} {g : Nat} {t : Tr} {ok : Nat → Prop} {ve vk x y : Value} {e : TypeId} (hbx : w.heap[g]? = some (.cells #[x, y] e (0, 0))) (h : t.rda w ok ve vk) (hne : ∀ b, ok b → b ≠ g) :
    ((w.setCell ⟨g, 0, none⟩ ve).setCell ⟨g, 1, none⟩ vk).cell? ⟨g, 0, none⟩ = some ve ∧ ((w.setCell ⟨g, 0, none⟩ ve).setCell ⟨g, 1, none⟩ vk).cell? ⟨g, 1, none⟩ = some vk ∧
      t.rda ((w.setCell ⟨g, 0, none⟩ ve).setCell ⟨g, 1, none⟩ vk) ok ve vk ∧ ((w.setCell ⟨g, 0, none⟩ ve).setCell ⟨g, 1, none⟩ vk).heap.size = w.heap.size := by
  have hW := cells_set (i := 1) (cells_set (i := 0) hbx ve) vk
  refine ⟨(cell_cells (i := 0) hW).trans (by simp), (cell_cells (i := 1) hW).trans (by simp), rda_up (fun b hb => ?_) (fun _ hb => hb) _ _ _ h, by simp [World.setCell]⟩
  exact (Below.heap_setCell _ _ _ _ (hne b hb)).trans (Below.heap_setCell _ _ _ _ (hne b hb))
/-- The call hands back a tree in blocks of its own. -/
def RetT (w : World) (t : Tr) (e : Ending) (w' : World) : Prop :=
  ∃ ve vk, e = .returned (.agg #[ve, vk]) ∧ t.rda w' (fun b => w.heap.size ≤ b ∧ b < w'.heap.size) ve vk ∧ Below w.heap.size w w'
end Go.Proofs.YtmphgnjodangcaaGreat
