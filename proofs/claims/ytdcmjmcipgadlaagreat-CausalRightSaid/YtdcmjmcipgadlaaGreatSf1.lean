/- What the laws need, part 1: tributaryref06.Right, tributaryref07.Right, Leq, tributaryref09.Right, Small. No condition but that there is not too much. Plain law: what tributaryref08.Wrap tells of a right tree at one key is what tree.Wrap tells. No condition. tributaryref08.deep, tributaryref08.Wrap. No condition but that there is not too much. The law OrmapUpdates answers true. No condition. A law's argument that is what is known. No condition. -/
import Derived.Test.YtdcmjmcipgadlaaGreatSe4
namespace Go.Proofs.YtdcmjmcipgadlaaGreat
open Go.RowKit
set_option maxRecDepth 100000

set_option maxHeartbeats 4000000 in
theorem r06right_any (l : List (Int × Int)) (v : Value) (w : World) (h : SlP w w.heap.size 2 RuE v l) :
    Calls Tryz.prog 110 #[v] w fun e w' => e = .returned (.bool (runsR none l)) ∧ Below w.heap.size w w' := by
  obtain ⟨A, n, rfl, b1, b2, b3⟩ := h
  unfold Big at b2
  go_enter Tryz.func110, Tryz.ntmps110
  go_wp2_with fail
  go_loopw [6] (fun i wr => ∃ k : Nat, k ≤ l.length ∧ i = .int .i64 k ∧ Hid (runsR (prevR l k) (l.drop k) = runsR none l) ∧ Hid (∀ h, prevR l k = some h → 1 ≤ h ∧ h ≤ 1099511627776) ∧ Below w.heap.size w wr) (fun i _ => l.length - (intOf i).toNat)
  case atStart => exact ⟨0, Nat.zero_le _, rfl, rfl, fun _ h => by simp [prevR] at h, Below.refl _ _⟩
  case round =>
    obtain ⟨k, hk, rfl, hrel, hpr, hb⟩ := hrel
    have hsz := hb.size
    by_cases hlt : k < l.length
    · obtain ⟨r, hx⟩ : ∃ x, l[k]? = some x := ⟨_, List.getElem?_eq_getElem hlt⟩
      obtain ⟨b, off, rfl, hbB, hc⟩ := b3 (by rintro rfl; simp at hlt)
      obtain ⟨cs, ⟨rfl, hok⟩, _, hu⟩ := hc k _ hx
      have hi1 := hok.1
      unfold I64 at hi1
      have e0 : wr.cell? ⟨b, off + k * 2, none⟩ = some (.int .i64 r.1) := (hb.cell hbB).trans (hu 0 _ rfl)
      have e1 : wr.cell? ⟨b, off + k * 2 + 1, none⟩ = some (.int .i64 r.2) := (hb.cell hbB).trans (hu 1 _ rfl)
      have HR : Hid (runsR none l = (numB r.1 && numB r.2 && decide (r.1 ≤ r.2) && okR (prevR l k) r.1 && runsR (prevR l (k + 1)) (l.drop (k + 1)))) := by
        have := hrel.out
        rw [drop_cons hx, runsR_cons] at this
        rw [prevR_succ hx]; exact this.symm
      have HPS := hid (prevR_succ hx)
      have f0 := far_cell (B := wr.heap.size) (w := wr) (b := b) (o := off + k * 2) (v := .int .i64 r.1) e0 (by omega)
      have f1 := far_cell (B := wr.heap.size) (w := wr) (b := b) (o := off + k * 2 + 1) (v := .int .i64 r.2) e1 (by omega)
      have hprev : ∃ q : Int, (0 < k → prevR l k = some q ∧ (∀ p : Far wr.heap.size wr, p.w'.cell? ⟨b, off + (k - 1) * 2 + 1, none⟩ = some (.int .i64 q))) := by
        by_cases h0 : 0 < k
        · obtain ⟨y, hy⟩ : ∃ y, l[k - 1]? = some y := ⟨_, List.getElem?_eq_getElem (by omega)⟩
          obtain ⟨cs, ⟨rfl, _⟩, _, hu⟩ := hc (k - 1) _ hy
          refine ⟨y.2, fun _ => ⟨by rw [prevR, if_neg (by omega), hy]; rfl, fun p => far_cell ?_ (by omega) p⟩⟩
          exact (hb.cell hbB).trans (hu 1 _ rfl)
        · exact ⟨0, fun h => absurd h h0⟩
      obtain ⟨q, hprev⟩ := hprev
      go_upto_region 4 with (fail)
      clear hrel hu hc b3 hx e0 e1 hok
      rcases t1 : decide (r.1 < 1)
      case true =>
        have h1 : Hid (numB r.1 = false) := by have := of_decide_eq_true t1; unfold Hid; simp [numB]; omega
        refine wp_region_far wr.heap.size (by kernel_rfl) (by kernel_rfl) ?_
        repeat (go_big_quiet_step (fail))
        refine wpQuiet_nil ?_
        intro wq hbq
        have hbw : Below w.heap.size w wq := hb.trans (hbq.mono (by omega))
        go_wp2_with fail
        go_ret
        refine ⟨ret_bool ?_, hbw⟩
        rw [HR.out]
        rw [h1.out]; simp
      rcases t2 : decide (1099511627776 < r.2)
      case true =>
        have h2 : Hid (numB r.2 = false) := by have := of_decide_eq_true t2; unfold Hid; simp [numB]; omega
        refine wp_region_far wr.heap.size (by kernel_rfl) (by kernel_rfl) ?_
        repeat (go_big_quiet_step (fail))
        refine wpQuiet_nil ?_
        intro wq hbq
        have hbw : Below w.heap.size w wq := hb.trans (hbq.mono (by omega))
        go_wp2_with fail
        go_ret
        refine ⟨ret_bool ?_, hbw⟩
        rw [HR.out]
        rw [h2.out]; simp
      rcases t3 : decide (r.2 < r.1)
      case true =>
        have h3 : Hid (decide (r.1 ≤ r.2) = false) := by have := of_decide_eq_true t3; unfold Hid; simp; omega
        refine wp_region_far wr.heap.size (by kernel_rfl) (by kernel_rfl) ?_
        repeat (go_big_quiet_step (fail))
        refine wpQuiet_nil ?_
        intro wq hbq
        have hbw : Below w.heap.size w wq := hb.trans (hbq.mono (by omega))
        go_wp2_with fail
        go_ret
        refine ⟨ret_bool ?_, hbw⟩
        rw [HR.out]
        rw [h3.out]; simp
      have g1 := of_decide_eq_false t1
      have g2 := of_decide_eq_false t2
      have g3 := of_decide_eq_false t3
      have h3 : Hid (decide (r.1 ≤ r.2) = true) := by unfold Hid; simp; omega
      have h1 : numB r.1 = true := by simp [numB]; omega
      have h2 : numB r.2 = true := by simp [numB]; omega
      have HN : Hid (∀ h, prevR l (k + 1) = some h → 1 ≤ h ∧ h ≤ 1099511627776) := fun h hh => by rw [HPS.out] at hh; cases hh; omega
      rcases Nat.eq_zero_or_pos k with h0 | h0
      · have t0 : decide ((0 : Int) < (k : Int)) = false := by simp; omega
        have t0' : decide (0 < k) = false := by simp; omega
        have hpk : Hid (okR (prevR l k) r.1 = true) := by rw [show prevR l k = none by (rw [h0]; rfl)]; rfl
        clear h0 hprev
        refine wp_region_far wr.heap.size (by kernel_rfl) (by kernel_rfl) ?_
        repeat (go_big_quiet_step (fail))
        refine wpQuiet_nil ?_
        intro wq hbq
        have hbw : Below w.heap.size w wq := hb.trans (hbq.mono (by omega))
        go_wp2_with fail
        go_roundw
        case rel =>
          refine ⟨k + 1, by omega, by go_num, ?_, HN.out, hbw⟩
          show _ = _
          rw [HR.out, h1, h2]
          rw [h3.out, hpk.out]; simp
        case measure => simp [intOf]; omega
      · obtain ⟨hq, q0⟩ := hprev h0
        have hqb := hpr.out q hq
        have hwq : IntKind.i64.wrap (r.1 - q) = r.1 - q := IntWalk.i64_in _ (by omega)
        have hwk : IntKind.i64.wrap ((k : Int) - 1) = (k : Int) - 1 := IntWalk.i64_in _ (by omega)
        rcases t5 : decide (r.1 - q < 2)
        · have hpk : Hid (okR (prevR l k) r.1 = true) := by rw [hq]; have := of_decide_eq_false t5; unfold Hid; simp [okR]; omega
          clear hprev hq hqb
          refine wp_region_far wr.heap.size (by kernel_rfl) (by kernel_rfl) ?_
          repeat (go_big_quiet_step (fail))
          refine wpQuiet_nil ?_
          intro wq hbq
          have hbw : Below w.heap.size w wq := hb.trans (hbq.mono (by omega))
          go_wp2_with fail
          go_roundw
          case rel =>
            refine ⟨k + 1, by omega, by go_num, ?_, HN.out, hbw⟩
            show _ = _
            rw [HR.out, h1, h2]
            rw [h3.out, hpk.out]; simp
          case measure => simp [intOf]; omega
        · have hpk : Hid (okR (prevR l k) r.1 = false) := by rw [hq]; have := of_decide_eq_true t5; unfold Hid; simp [okR]; omega
          clear hprev hq hqb
          refine wp_region_far wr.heap.size (by kernel_rfl) (by kernel_rfl) ?_
          repeat (go_big_quiet_step (fail))
          refine wpQuiet_nil ?_
          intro wq hbq
          have hbw : Below w.heap.size w wq := hb.trans (hbq.mono (by omega))
          go_wp2_with fail
          go_ret
          refine ⟨ret_bool ?_, hbw⟩
          rw [HR.out]
          rw [h1, h2, h3.out, hpk.out]; simp
    · obtain rfl : k = l.length := by omega
      have hr := hrel.out
      go_wp2_with fail
      go_ret
      exact ⟨ret_bool (by rw [← hr]; simp [runsR]), hb⟩

set_option maxHeartbeats 4000000 in
theorem r07right_any (c : List Sp) (vc : Value) (w : World) (h : SlP w w.heap.size 3 SpE vc c) (hN : c.length ≤ 900000) :
    Calls Tryz.prog 73 #[vc] w fun e w' => e = .returned (.bool (apartB c)) ∧ Below w.heap.size w w' := by
  have HS := hid h
  obtain ⟨A, n, rfl, b1, b2, b3⟩ := h
  unfold Big at b2
  go_enter Tryz.func73, Tryz.ntmps73
  go_wp2_with fail
  go_loopw [7] (fun i wr => ∃ (k : Nat) (L : Int), k ≤ c.length ∧ i = .int .i64 k ∧ Hid (dcsOk L (c.drop k) = dcsOk 0 c) ∧ Hid (∀ y, 0 < k → c[k - 1]? = some y → y.dc = L) ∧ Hid (k = 0 → L = 0) ∧ 0 ≤ L ∧ Below w.heap.size w wr) (fun i _ => c.length - (intOf i).toNat)
  case atStart => exact ⟨0, 0, Nat.zero_le _, rfl, rfl, fun _ h => absurd h (Nat.not_lt_zero _), fun _ => rfl, Int.le_refl _, Below.refl _ _⟩
  case round =>
    obtain ⟨k, L, hk, rfl, hrel, hpr, hz0, hL, hb⟩ := hrel
    have hsz := hb.size
    by_cases hlt : k < c.length
    · obtain ⟨x, hx⟩ : ∃ x, c[k]? = some x := ⟨_, List.getElem?_eq_getElem hlt⟩
      obtain ⟨b, off, rfl, hbB, hc⟩ := b3 (by rintro rfl; simp at hlt)
      obtain ⟨cs, ⟨rfl, hok⟩, _, hu⟩ := hc k _ hx
      have e0 : wr.cell? ⟨b, off + k * 3, none⟩ = some (.int .i64 x.dc) := (hb.cell hbB).trans (hu 0 _ rfl)
      have HR : Hid (dcsOk 0 c = (decide (L ≤ x.dc) && decide (x.dc < 4) && dcsOk x.dc (c.drop (k + 1)))) := by
        have := hrel.out
        rw [drop_cons hx, dcsOk] at this
        exact this.symm
      have HQ : Hid (∀ y, 0 < k + 1 → c[k + 1 - 1]? = some y → y.dc = x.dc) := fun y _ hy => by
        rw [Nat.add_sub_cancel, hx] at hy; cases hy; rfl
      have f0 := far_cell (B := wr.heap.size) (w := wr) (b := b) (o := off + k * 3) (v := .int .i64 x.dc) e0 (by omega)
      have hprev : 0 < k → (∀ p : Far wr.heap.size wr, p.w'.cell? ⟨b, off + (k - 1) * 3, none⟩ = some (.int .i64 L)) := fun h0 => by
        obtain ⟨y, hy⟩ : ∃ y, c[k - 1]? = some y := ⟨_, List.getElem?_eq_getElem (by omega)⟩
        obtain ⟨cs, ⟨rfl, _⟩, _, hu⟩ := hc (k - 1) _ hy
        intro p
        refine far_cell ?_ (by omega) p
        rw [← hpr.out y h0 hy]
        exact (hb.cell hbB).trans (hu 0 _ rfl)
      go_upto_region 4 with (fail)
      clear hrel hu hc b3 hx e0 hok hpr
      rcases t1 : decide (x.dc < 0)
      case true =>
        have HF : Hid (apartB c = false) := by
          have := of_decide_eq_true t1
          unfold Hid apartB; rw [HR.out, decide_eq_false (show ¬ L ≤ x.dc by omega)]; rfl
        refine wp_region_far wr.heap.size (by kernel_rfl) (by kernel_rfl) ?_
        repeat (go_big_quiet_step (fail))
        refine wpQuiet_nil ?_
        intro wq hbq
        have hbw : Below w.heap.size w wq := hb.trans (hbq.mono (by omega))
        go_wp2_with fail
        go_ret
        exact ⟨ret_bool HF.out.symm, hbw⟩
      rcases t2 : decide (4 ≤ x.dc)
      case true =>
        have HF : Hid (apartB c = false) := by
          have := of_decide_eq_true t2
          unfold Hid apartB; rw [HR.out, decide_eq_false (show ¬ x.dc < 4 by omega)]; simp
        refine wp_region_far wr.heap.size (by kernel_rfl) (by kernel_rfl) ?_
        repeat (go_big_quiet_step (fail))
        refine wpQuiet_nil ?_
        intro wq hbq
        have hbw : Below w.heap.size w wq := hb.trans (hbq.mono (by omega))
        go_wp2_with fail
        go_ret
        exact ⟨ret_bool HF.out.symm, hbw⟩
      have g1 : 0 ≤ x.dc := by have := of_decide_eq_false t1; omega
      have g2 := of_decide_eq_false t2
      rcases Nat.eq_zero_or_pos k with h0 | h0
      · have t0 : decide ((0 : Int) < (k : Int)) = false := by simp; omega
        have t0' : decide (0 < k) = false := by simp; omega
        have HG : Hid (dcsOk x.dc (c.drop (k + 1)) = dcsOk 0 c) := by
          unfold Hid; rw [HR.out, decide_eq_true (show L ≤ x.dc by have := hz0.out h0; omega), decide_eq_true (show x.dc < 4 by omega)]; rfl
        clear h0 hprev
        refine wp_region_far wr.heap.size (by kernel_rfl) (by kernel_rfl) ?_
        repeat (go_big_quiet_step (fail))
        refine wpQuiet_nil ?_
        intro wq hbq
        have hbw : Below w.heap.size w wq := hb.trans (hbq.mono (by omega))
        go_wp2_with fail
        go_roundw
        case rel => exact ⟨k + 1, x.dc, by omega, by go_num, HG.out, HQ.out, fun h => absurd h (Nat.succ_ne_zero k), g1, hbw⟩
        case measure => simp [intOf]; omega
      · have q0 := hprev h0
        have hwk : IntKind.i64.wrap ((k : Int) - 1) = (k : Int) - 1 := IntWalk.i64_in _ (by omega)
        clear hprev
        rcases t5 : decide (x.dc < L)
        · have HG : Hid (dcsOk x.dc (c.drop (k + 1)) = dcsOk 0 c) := by
            have := of_decide_eq_false t5
            unfold Hid; rw [HR.out, decide_eq_true (show L ≤ x.dc by omega), decide_eq_true (show x.dc < 4 by omega)]; rfl
          refine wp_region_far wr.heap.size (by kernel_rfl) (by kernel_rfl) ?_
          repeat (go_big_quiet_step (fail))
          refine wpQuiet_nil ?_
          intro wq hbq
          have hbw : Below w.heap.size w wq := hb.trans (hbq.mono (by omega))
          go_wp2_with fail
          go_roundw
          case rel => exact ⟨k + 1, x.dc, by omega, by go_num, HG.out, HQ.out, fun h => absurd h (Nat.succ_ne_zero k), g1, hbw⟩
          case measure => simp [intOf]; omega
        · have HF : Hid (apartB c = false) := by
            have := of_decide_eq_true t5
            unfold Hid apartB; rw [HR.out, decide_eq_false (show ¬ L ≤ x.dc by omega)]; rfl
          refine wp_region_far wr.heap.size (by kernel_rfl) (by kernel_rfl) ?_
          repeat (go_big_quiet_step (fail))
          refine wpQuiet_nil ?_
          intro wq hbq
          have hbw : Below w.heap.size w wq := hb.trans (hbq.mono (by omega))
          go_wp2_with fail
          go_ret
          exact ⟨ret_bool HF.out.symm, hbw⟩
    · obtain rfl : k = c.length := by omega
      have HD : Hid (dcsOk 0 c = true) := by
        have := hrel.out
        rw [List.drop_of_length_le (Nat.le_refl _), dcsOk] at this
        exact this.symm
      clear hrel hpr hz0 b3
      go_wp2_with fail
      obtain ⟨wo, rfl⟩ : ∃ wo : World, wo = wr := ⟨_, rfl⟩
      go_loopw [43] (fun i wr => ∃ k : Nat, k ≤ 4 ∧ i = .int .i64 k ∧ Hid (((List.range k).all fun (dc : Nat) => runsR none (partL c dc)) = true) ∧ Below w.heap.size w wr) (fun i _ => 4 - (intOf i).toNat)
      case atStart => exact ⟨0, Nat.zero_le _, rfl, rfl, hb⟩
      case round =>
        clear hb hsz
        obtain ⟨k, hk, rfl, hrel, hb⟩ := hrel
        have hsz := hb.size
        by_cases hlt : k < 4
        · have HA : Hid (((List.range (k + 1)).all fun (dc : Nat) => runsR none (partL c dc)) = runsR none (partL c k)) := by
            unfold Hid; rw [List.range_succ, List.all_append, hrel.out]; simp
          have hpl := partL_len c k
          go_wp2_with fail
          refine (r07part_any c k _ wr (HS.out.imp hb hsz fun _ _ _ h => h) (by omega)).mono ?_
          rintro e w1 ⟨v1, rfl, ho1, hb1⟩
          have hs1 := hb1.size
          have HO1 := hid (ho1.sl (by unfold Big; omega))
          clear ho1
          go_wp2_with fail
          refine (r06right_any (partL c k) _ w1 HO1.out).mono ?_
          rintro e w2 ⟨rfl, hb2⟩
          have hB2 : Below w.heap.size w w2 := (hb.trans (hb1.mono hsz)).trans (hb2.mono (by omega))
          clear hb1 hb2
          rcases hq : runsR none (partL c k)
          · have HF : Hid (apartB c = false) := by
              unfold Hid apartB
              rw [HD.out, Bool.true_and]
              refine List.all_eq_false.2 ⟨k, List.mem_range.2 hlt, ?_⟩
              rw [hq]; simp
            go_wp2_with fail
            go_ret
            exact ⟨ret_bool HF.out.symm, hB2⟩
          · have HA2 : Hid (((List.range (k + 1)).all fun (dc : Nat) => runsR none (partL c dc)) = true) := by unfold Hid; rw [HA.out, hq]
            go_wp2_with fail
            go_roundw
            case rel => exact ⟨k + 1, by omega, by go_num, HA2.out, hB2⟩
            case measure => simp [intOf]; omega
        · obtain rfl : k = 4 := by omega
          have HT : Hid (apartB c = true) := by unfold Hid apartB; rw [HD.out, hrel.out]; rfl
          go_wp2_with fail
          go_ret
          exact ⟨ret_bool HT.out.symm, hb⟩

/-- What tributaryref07.Leq tells. -/
def rLeq (a b : List Sp) : Bool := decide ((ctxBy a b 2).length = 0)
theorem r07leq_any (a b : List Sp) (va vb : Value) (w : World) (ha : SlP w w.heap.size 3 SpE va a) (hb : SlP w w.heap.size 3 SpE vb b) (hN : a.length ≤ 50000) (hN' : b.length ≤ 50000) (hR : SpsOk a) (hR' : SpsOk b) :
    Calls Tryz.prog 74 #[va, vb] w fun e w' => e = .returned (.bool (rLeq a b)) ∧ Below w.heap.size w w' := by
  go_enter Tryz.func74, Tryz.ntmps74
  go_wp2_with fail
  refine (r07by_any a b 2 _ _ w ha hb hN hN' hR hR' (by simp)).mono ?_
  rintro e w3 ⟨v3, rfl, ho3, hb3⟩
  obtain ⟨A5, c5, rfl⟩ := ho3.shape
  have HR0 : Hid (rLeq a b = decide ((ctxBy a b 2).length = 0)) := rfl
  have hl := ctxBy_len a b 2
  clear ho3
  generalize ctxBy a b 2 = C at *
  rcases hz : decide (C.length = 0)
  · have hz2 : C.length ≠ 0 := by simpa using hz
    have HZ := hid hz
    clear hz
    go_wp2_with fail
    go_ret
    exact ⟨ret_bool (by rw [HR0.out, HZ.out]; simpa using hz2), hb3⟩
  · have hz2 : C.length = 0 := by simpa using hz
    have HZ := hid hz
    clear hz
    go_wp2_with fail
    go_ret
    exact ⟨ret_bool (by rw [HR0.out, HZ.out]), hb3⟩
theorem spsOk_apart {c : List Sp} (h : apartB c = true) : SpsOk c := fun s hs => by
  have hd := apart_dcs c 0 (by unfold apartB at h; simp at h; exact h.1) s hs
  obtain ⟨i, hi⟩ : ∃ i : Nat, (i : Int) = s.dc := ⟨s.dc.toNat, by omega⟩
  have hr := apart_part h (i := i) (by omega)
  have hm : (s.fr, s.hi) ∈ partL c (i : Int) := by
    unfold partL
    exact List.mem_map.2 ⟨s, List.mem_filter.2 ⟨hs, by simp [hi]⟩, rfl⟩
  have := runs_ok _ none hr _ hm
  unfold runOk at this
  exact ⟨by show 0 ≤ s.fr; simp at this; omega, by show s.fr ≤ _; simp at this; omega, by show 0 ≤ s.hi; simp at this; omega, by show s.hi ≤ _; simp at this; omega⟩
/-- What tributaryref09.Right tells. -/
def r9R (t : Tr) (c : List Sp) : Bool := t.right 5 && (apartB c && rLeq (ctxOf t.dots) c)
theorem caR_r9 (t : Tr) (c : List Sp) : caR t c = r9R t c := by
  unfold caR r9R cLeq rLeq
  cases h : t.right 5
  · rfl
  · rw [apart_ctxOf (right_dots t 5 h)]; rfl
set_option maxHeartbeats 4000000 in
theorem r09right_any (t : Tr) (c : List Sp) (ve vk vc : Value) (w : World) (h : t.rd w w.heap.size ve vk) (hc : SlP w w.heap.size 3 SpE vc c) (hN : t.sz ≤ 4000) (hN' : c.length ≤ 20000) :
    Calls Tryz.prog 19 #[.agg #[ve, vk, vc]] w fun e w' => e = .returned (.bool (r9R t c)) ∧ Below w.heap.size w w' := by
  have HC : Hid (∀ w', Below w.heap.size w w' → t.rd w' w'.heap.size ve vk) := fun w' hb => rd_below hb hb.size _ _ _ h
  have HS : Hid (∀ w', Below w.heap.size w w' → SlP w' w'.heap.size 3 SpE vc c) := fun w' hb => hc.imp hb hb.size fun _ _ _ h => h
  have hd1 := ctxOf_len t.dots
  have hd2 := dots_len t
  have hcl : (ctxOf t.dots).length ≤ 50000 := by omega
  have HBL : Hid ((ctxOf t.dots).length ≤ Big) := by unfold Hid Big; omega
  obtain ⟨A3, n3, A4, n4, rfl, rfl⟩ := rd_shape h
  obtain ⟨A5, n5, rfl, _⟩ := hc
  clear h
  have hb0 : Below w.heap.size w (w.alloc (.cells #[.slice A3 t.es.length n3, .slice A4 t.ks.length n4, .slice A5 c.length n5] 29)) := (Below.refl _ w).alloc (Nat.le_refl _) _
  have HB : Hid (∀ w', Below (w.heap.size + 1) (w.alloc (.cells #[.slice A3 t.es.length n3, .slice A4 t.ks.length n4, .slice A5 c.length n5] 29)) w' → Below w.heap.size w w' ∧ t.rd w' w'.heap.size (.slice A3 t.es.length n3) (.slice A4 t.ks.length n4) ∧ SlP w' w'.heap.size 3 SpE (.slice A5 c.length n5) c ∧ (w'.cell? ⟨w.heap.size, 0, none⟩ = some (.slice A3 t.es.length n3) ∧ w'.cell? ⟨w.heap.size, 1, none⟩ = some (.slice A4 t.ks.length n4) ∧ w'.cell? ⟨w.heap.size, 2, none⟩ = some (.slice A5 c.length n5))) := fun w' hb => by
    have hB := hb0.trans (hb.mono (by omega))
    refine ⟨hB, HC.out _ hB, HS.out _ hB, ?_, ?_, ?_⟩
    · rw [hb.cell (p := ⟨w.heap.size, 0, none⟩) (by simp), World.cell?_alloc_new]; rfl
    · rw [hb.cell (p := ⟨w.heap.size, 1, none⟩) (by simp), World.cell?_alloc_new]; rfl
    · rw [hb.cell (p := ⟨w.heap.size, 2, none⟩) (by simp), World.cell?_alloc_new]; rfl
  go_enter Tryz.func19, Tryz.ntmps19
  cases r1 : t.right 5
  · have HR1 := hid r1
    have HF : Hid (r9R t c = false) := by unfold Hid r9R; rw [r1]; rfl
    clear r1
    have f0 := far_cell (B := w.heap.size + 1) (w := w.alloc (.cells #[.slice A3 t.es.length n3, .slice A4 t.ks.length n4, .slice A5 c.length n5] 29)) (b := w.heap.size) (o := 0) (v := .slice A3 t.es.length n3) (by simp) (by omega)
    have f1 := far_cell (B := w.heap.size + 1) (w := w.alloc (.cells #[.slice A3 t.es.length n3, .slice A4 t.ks.length n4, .slice A5 c.length n5] 29)) (b := w.heap.size) (o := 1) (v := .slice A4 t.ks.length n4) (by simp) (by omega)
    have f2 := far_cell (B := w.heap.size + 1) (w := w.alloc (.cells #[.slice A3 t.es.length n3, .slice A4 t.ks.length n4, .slice A5 c.length n5] 29)) (b := w.heap.size) (o := 2) (v := .slice A5 c.length n5) (by simp) (by omega)
    go_upto_region 1 with (fail)
    refine wp_region_far (w.heap.size + 1) (by kernel_rfl) (by kernel_rfl) ?_
    repeat (go_big_quiet_step (first | (go_at_call 18; exact Calls.far_all (by simp) (fun w' hb' => HR1.out ▸ r08Right_any t w' _ _ (HB.out w' hb').2.1)) | (go_at_call 73; exact Calls.far_all (by simp) (fun w' hb' => HR2.out ▸ r07right_any c _ w' (HB.out w' hb').2.2.1 (by omega)))))
    refine wpQuiet_nil ?_
    intro wq hbq
    go_wp2_with fail
    go_ret
    exact ⟨ret_bool HF.out.symm, (HB.out _ hbq).1⟩
  have HR1 := hid r1
  cases r2 : apartB c
  · have HR2 := hid r2
    have HF : Hid (r9R t c = false) := by unfold Hid r9R; rw [r1, r2]; rfl
    clear r1 r2
    have f0 := far_cell (B := w.heap.size + 1) (w := w.alloc (.cells #[.slice A3 t.es.length n3, .slice A4 t.ks.length n4, .slice A5 c.length n5] 29)) (b := w.heap.size) (o := 0) (v := .slice A3 t.es.length n3) (by simp) (by omega)
    have f1 := far_cell (B := w.heap.size + 1) (w := w.alloc (.cells #[.slice A3 t.es.length n3, .slice A4 t.ks.length n4, .slice A5 c.length n5] 29)) (b := w.heap.size) (o := 1) (v := .slice A4 t.ks.length n4) (by simp) (by omega)
    have f2 := far_cell (B := w.heap.size + 1) (w := w.alloc (.cells #[.slice A3 t.es.length n3, .slice A4 t.ks.length n4, .slice A5 c.length n5] 29)) (b := w.heap.size) (o := 2) (v := .slice A5 c.length n5) (by simp) (by omega)
    go_upto_region 1 with (fail)
    refine wp_region_far (w.heap.size + 1) (by kernel_rfl) (by kernel_rfl) ?_
    repeat (go_big_quiet_step (first | (go_at_call 18; exact Calls.far_all (by simp) (fun w' hb' => HR1.out ▸ r08Right_any t w' _ _ (HB.out w' hb').2.1)) | (go_at_call 73; exact Calls.far_all (by simp) (fun w' hb' => HR2.out ▸ r07right_any c _ w' (HB.out w' hb').2.2.1 (by omega)))))
    refine wpQuiet_nil ?_
    intro wq hbq
    go_wp2_with fail
    go_ret
    exact ⟨ret_bool HF.out.symm, (HB.out _ hbq).1⟩
  have HR2 := hid r2
  have HF : Hid (r9R t c = rLeq (ctxOf t.dots) c) := by unfold Hid r9R; rw [r1, r2]; rfl
  have HRN : Hid (∀ d ∈ t.dots, 0 ≤ d.n ∧ d.n ≤ 1099511627778) := right_nums r1
  have HS1 := hid (spsOk_ctxOf (right_dots t 5 r1))
  have HS2 := hid (spsOk_apart r2)
  clear r1 r2 hd1 hd2
  have hr3 : rLeq (ctxOf t.dots) c = rLeq (ctxOf t.dots) c := rfl
  cases r3 : rLeq (ctxOf t.dots) c
  · have HR3 := hid r3
    clear r3
    go_upto_region 1 with (fail)
    go_region_held3 (fun w' => w'.cell? ⟨w.heap.size, 0, none⟩ = some (.slice A3 t.es.length n3) ∧ w'.cell? ⟨w.heap.size, 1, none⟩ = some (.slice A4 t.ks.length n4) ∧ w'.cell? ⟨w.heap.size, 2, none⟩ = some (.slice A5 c.length n5))
      (first | go_keep | exact (HB.out _ hb4.out).2.2.2 | exact (HB.out _ hb3.out).2.2.2 | exact (HB.out _ hb2.out).2.2.2 | exact (HB.out _ hb1.out).2.2.2)
      (first | (go_at_call 18; go_loud ((refine (r08Right_any t _ _ _ (HB.out _ (by go_grown)).2.1).mono ?_); rw [HR1.out]; rintro e w1 ⟨rfl, hb⟩; have hb1 : Hid (Below (w.heap.size + 1) (w.alloc (.cells #[.slice A3 t.es.length n3, .slice A4 t.ks.length n4, .slice A5 c.length n5] 29)) w1) := (Below.trans (by go_grown) (hb.mono (by simp)))))
             | (go_at_call 73; go_loud ((refine (r07right_any c _ w1 (HB.out _ hb1.out).2.2.1 (by omega)).mono ?_); rw [HR2.out]; rintro e w2 ⟨rfl, hb⟩; have hb2 := hid (hb1.out.trans (hb.mono (by have := hb1.out.size; simpa using this)))))
             | (go_at_call 28; go_loud ((refine (r08dots_any t w2 _ _ (HB.out _ hb2.out).2.1 (by omega) HRN.out).mono ?_); rintro e w3 ⟨v3, rfl, ho3, hb⟩; have hb3 := hid (hb2.out.trans (hb.mono (by have := hb2.out.size; simpa using this))); have hsl3 := hid (ho3.sl HBL.out); obtain ⟨A9, c9, hv9⟩ := ho3.shape; subst hv9; clear ho3))
             | (go_at_call 74; go_loud ((refine (r07leq_any (ctxOf t.dots) c _ _ w3 hsl3.out (HB.out _ hb3.out).2.2.1 hcl (by omega) HS1.out HS2.out).mono ?_); rw [HR3.out]; rintro e w4 ⟨rfl, hb⟩; have hb4 := hid (hb3.out.trans (hb.mono (by have := hb3.out.size; simpa using this))))))
    go_wp2_with fail
    go_ret
    exact ⟨ret_bool (by rw [HF.out, HR3.out]), (HB.out _ hb4.out).1⟩
  · have HR3 := hid r3
    clear r3
    go_upto_region 1 with (fail)
    go_region_held3 (fun w' => w'.cell? ⟨w.heap.size, 0, none⟩ = some (.slice A3 t.es.length n3) ∧ w'.cell? ⟨w.heap.size, 1, none⟩ = some (.slice A4 t.ks.length n4) ∧ w'.cell? ⟨w.heap.size, 2, none⟩ = some (.slice A5 c.length n5))
      (first | go_keep | exact (HB.out _ hb4.out).2.2.2 | exact (HB.out _ hb3.out).2.2.2 | exact (HB.out _ hb2.out).2.2.2 | exact (HB.out _ hb1.out).2.2.2)
      (first | (go_at_call 18; go_loud ((refine (r08Right_any t _ _ _ (HB.out _ (by go_grown)).2.1).mono ?_); rw [HR1.out]; rintro e w1 ⟨rfl, hb⟩; have hb1 : Hid (Below (w.heap.size + 1) (w.alloc (.cells #[.slice A3 t.es.length n3, .slice A4 t.ks.length n4, .slice A5 c.length n5] 29)) w1) := (Below.trans (by go_grown) (hb.mono (by simp)))))
             | (go_at_call 73; go_loud ((refine (r07right_any c _ w1 (HB.out _ hb1.out).2.2.1 (by omega)).mono ?_); rw [HR2.out]; rintro e w2 ⟨rfl, hb⟩; have hb2 := hid (hb1.out.trans (hb.mono (by have := hb1.out.size; simpa using this)))))
             | (go_at_call 28; go_loud ((refine (r08dots_any t w2 _ _ (HB.out _ hb2.out).2.1 (by omega) HRN.out).mono ?_); rintro e w3 ⟨v3, rfl, ho3, hb⟩; have hb3 := hid (hb2.out.trans (hb.mono (by have := hb2.out.size; simpa using this))); have hsl3 := hid (ho3.sl HBL.out); obtain ⟨A9, c9, hv9⟩ := ho3.shape; subst hv9; clear ho3))
             | (go_at_call 74; go_loud ((refine (r07leq_any (ctxOf t.dots) c _ _ w3 hsl3.out (HB.out _ hb3.out).2.2.1 hcl (by omega) HS1.out HS2.out).mono ?_); rw [HR3.out]; rintro e w4 ⟨rfl, hb⟩; have hb4 := hid (hb3.out.trans (hb.mono (by have := hb3.out.size; simpa using this))))))
    go_wp2_with fail
    go_ret
    exact ⟨ret_bool (by rw [HF.out, HR3.out]), (HB.out _ hb4.out).1⟩

/-- What tributaryref09.Small tells. -/
def sml9 (t : Tr) (c : List Sp) (n : Int) : Bool := smlB t n && decide ((c.length : Int) ≤ n)
theorem r09small_any (t : Tr) (c : List Sp) (n : Int) (ve vk vc : Value) (w : World) (h : t.rd w w.heap.size ve vk) (hc : SlP w w.heap.size 3 SpE vc c) (hn : 0 ≤ n) (hn' : n ≤ 1000) :
    Calls Tryz.prog 16 #[.agg #[ve, vk, vc], .int .i64 n] w fun e w' => e = .returned (.bool (sml9 t c n)) ∧ Below w.heap.size w w' := by
  have HC : Hid (∀ w', Below w.heap.size w w' → t.rd w' w'.heap.size ve vk) := fun w' hb => rd_below hb hb.size _ _ _ h
  obtain ⟨A3, n3, A4, n4, rfl, rfl⟩ := rd_shape h
  obtain ⟨A5, n5, rfl, _, hcl, _⟩ := hc
  unfold Big at hcl
  clear h
  have hb0 : Below w.heap.size w (w.alloc (.cells #[.slice A3 t.es.length n3, .slice A4 t.ks.length n4, .slice A5 c.length n5] 29)) := (Below.refl _ w).alloc (Nat.le_refl _) _
  go_enter Tryz.func16, Tryz.ntmps16
  go_wp2_with fail
  refine (r08small_any t _ _ _ n (HC.out _ hb0) hn hn').mono ?_
  rintro e w1 ⟨rfl, hb1⟩
  rw [show decide (0 ≤ t.room n 8) = smlB t n from rfl]
  have hB1 : Below w.heap.size w w1 := hb0.trans (hb1.mono (by simp))
  have c2 : w1.cell? ⟨w.heap.size, 2, none⟩ = some (.slice A5 c.length n5) := by rw [hb1.cell (p := ⟨w.heap.size, 2, none⟩) (by simp), World.cell?_alloc_new]; rfl
  cases hs : smlB t n
  · have HF : Hid (sml9 t c n = false) := by unfold Hid sml9; rw [hs]; rfl
    clear hs
    go_wp2_with fail
    go_ret
    exact ⟨ret_bool HF.out.symm, hB1⟩
  · have HF : Hid (sml9 t c n = decide ((c.length : Int) ≤ n)) := by unfold Hid sml9; rw [hs]; rfl
    clear hs
    go_wp2_with fail
    go_ret
    exact ⟨ret_bool HF.out.symm, hB1⟩
end Go.Proofs.YtdcmjmcipgadlaaGreat

namespace Go.Proofs.YtdcmjmcipgadlaaGreat
open Go.RowKit
set_option maxRecDepth 100000

/-- How deep leaves stand. -/
def deepLv : List Lf → Nat
  | [] => 0
  | x :: l => max (1 + x.1.length) (deepLv l)
theorem deepLv_le {n : Nat} : ∀ {l : List Lf}, deepLv l ≤ n ↔ ∀ x ∈ l, 1 + x.1.length ≤ n
  | [] => by simp [deepLv]
  | x :: l => by
    rw [deepLv, Nat.max_le, deepLv_le]; simp
theorem deepLv_take {l : List Lf} {k : Nat} {x : Lf} (h : l[k]? = some x) : deepLv (l.take (k + 1)) = max (deepLv (l.take k)) (1 + x.1.length) := by
  induction l generalizing k with
  | nil => simp at h
  | cons y l ih =>
    cases k with
    | zero => simp at h; subst h; simp [deepLv]
    | succ k =>
      simp only [List.take_succ_cons]
      rw [deepLv, deepLv, ih (by simpa using h)]; omega
theorem deepLv_take_le (l : List Lf) (k : Nat) : deepLv (l.take k) ≤ deepLv l :=
  deepLv_le.2 fun x hx => deepLv_le.1 (Nat.le_refl (deepLv l)) x (List.mem_of_mem_take hx)
theorem depL_le_iff {n : Nat} : ∀ {ks : List Kd}, Tr.depL ks ≤ n ↔ ∀ k t, (k, t) ∈ ks → t.dep ≤ n
  | [] => by simp [Tr.depL]
  | (k, t) :: ks => by
    rw [Tr.depL, Nat.max_le, depL_le_iff]
    constructor
    · rintro ⟨h1, h2⟩ k' t' hm
      rcases List.mem_cons.1 hm with e | hm
      · cases e; exact h1
      · exact h2 k' t' hm
    · intro h; exact ⟨h k t (by simp), fun k' t' hm => h k' t' (by simp [hm])⟩
theorem dep_iff : ∀ (t : Tr), t.Ord → t.empty = false → ∀ n : Nat, (∀ x ∈ t.lvs [], 1 + x.1.length ≤ n) ↔ t.dep ≤ n := by
  intro t
  induction t using Tr.ind with
  | h es ks ih =>
  intro h he n
  obtain ⟨_, _, h3⟩ := ord_iff.1 h
  rw [Tr.dep]
  constructor
  · intro hl
    obtain ⟨x, hx⟩ := ord_leaf _ h he
    have h0 := hl x hx
    have : Tr.depL ks ≤ n - 1 := depL_le_iff.2 fun k t hm => (ih k t hm (h3 k t hm).2.2 (h3 k t hm).2.1 (n - 1)).1 fun y hy => by
      have := hl (k :: y.1, y.2) (mem_cons'.2 ⟨t, hm, hy⟩)
      simp at this; omega
    omega
  · intro hd x hx
    have hd' : Tr.depL ks ≤ n - 1 := by omega
    rcases mem_lvs.1 hx with ⟨hn, _⟩ | ⟨k, t, qs, hm, hq, hl⟩
    · rw [hn]; simp; omega
    · have := (ih k t hm (h3 k t hm).2.2 (h3 k t hm).2.1 (n - 1)).2 (depL_le_iff.1 hd' k t hm) _ hl
      rw [hq]; simp at this ⊢; omega
theorem deep_dep {t : Tr} (h : t.Ord) (he : t.empty = false) : deepLv (t.lvs []) = t.dep :=
  Nat.le_antisymm (deepLv_le.2 ((dep_iff t h he _).2 (Nat.le_refl _))) ((dep_iff t h he _).1 (deepLv_le.1 (Nat.le_refl _)))
theorem empB_empty (t : Tr) : empB t.es.length t.ks.length = t.empty := by
  obtain ⟨es, ks⟩ := t
  rw [Bool.eq_iff_iff]; simp [empB, Tr.empty, Tr.es, Tr.ks]
theorem lvs_empty {t : Tr} (h : t.Ord) : (t.lvs []).isEmpty = t.empty := by
  cases he : t.empty
  · obtain ⟨x, hx⟩ := ord_leaf t h he
    cases hl : t.lvs []
    · rw [hl] at hx; cases hx
    · rfl
  · obtain ⟨es, ks⟩ := t
    simp [Tr.empty] at he
    obtain ⟨rfl, rfl⟩ := he
    rfl
theorem buildL_nil : buildL [] = .mk [] [] := by
  have := build_lvs (t := .mk [] []) (Ord.mk' .nil .nil fun _ _ h => by cases h)
  exact this

/-- What tributaryref08.Wrap tells: the error's number, the tree. -/
def wrapRE (t : Tr) (p : List ByteArray) : Int := if !(p.all keyB) then 1 else if decide (5 < p.length) || !(t.lvs []).isEmpty && decide (5 < deepLv (t.lvs []) + p.length) then 10 else 0
def wrapRT (t : Tr) (p : List ByteArray) : Tr := if wrapRE t p = 0 then buildL ((t.lvs []).map fun x => (p ++ x.1, x.2)) else .mk [] []
theorem wrapRE_one {t : Tr} (s : ByteArray) (h : t.right 5 = true) : wrapRE t [s] = wrapE t s := by
  have ho := right_ord t 5 h
  unfold wrapRE wrapE
  rw [h, lvs_empty ho, empB_empty]
  cases he : t.empty
  · rw [deep_dep ho he]; simp
  · simp
theorem wrapRT_one {t : Tr} (s : ByteArray) (h : t.right 5 = true) : wrapRT t [s] = wrapT t s := by
  have ho := right_ord t 5 h
  unfold wrapRT wrapT
  rw [wrapRE_one s h]
  by_cases hz : wrapE t s = 0
  · rw [if_pos hz, if_pos hz, empB_empty]
    have hk : keyB s = true := by
      unfold wrapE at hz
      cases hk : keyB s
      · rw [hk] at hz; simp at hz
      · rfl
    cases he : t.empty
    · rw [if_neg (by simp)]
      have hO : Tr.Ord (.mk [] [(s, t)]) := Ord.mk' .nil (List.pairwise_singleton _ _) fun k u hm => by
        rw [List.mem_singleton] at hm; cases hm; exact ⟨keyB_ne hk, he, ho⟩
      have := build_lvs hO
      rw [Tr.lvs, Tr.lvsL, Tr.lvsL, List.map_nil, List.nil_append, List.append_nil, List.nil_append, lvs_at] at this
      exact this
    · rw [if_pos rfl]
      obtain ⟨es, ks⟩ := t
      simp [Tr.empty] at he
      obtain ⟨rfl, rfl⟩ := he
      exact buildL_nil
  · rw [if_neg hz, if_neg hz]
end Go.Proofs.YtdcmjmcipgadlaaGreat

namespace Go.Proofs.YtdcmjmcipgadlaaGreat
open Go.RowKit
set_option maxRecDepth 100000

set_option maxHeartbeats 2000000 in
theorem r08deep_any (l : List Lf) (okp : Nat → Prop) (v : Value) (w : World) (B : Nat) (h : SlP w B 5 (LfA w okp) v l) (hN : l.length ≤ 900000) (hD : deepLv l ≤ 100000) :
    Calls Tryz.prog 77 #[v] w fun e w' => e = .returned (.int .i64 (deepLv l : Nat)) ∧ w = w' := by
  obtain ⟨A, n, rfl, b1, b2, b3⟩ := h
  unfold Big at b2
  go_enter Tryz.func77, Tryz.ntmps77
  go_wp2_with fail
  go_loop [3, 7] (fun v i => ∃ k : Nat, k ≤ l.length ∧ i = .int .i64 k ∧ v = .int .i64 (deepLv (l.take k) : Nat)) (fun _ i => l.length - (intOf i).toNat)
  case atStart => exact ⟨0, Nat.zero_le _, rfl, rfl⟩
  case round =>
    obtain ⟨k, hk, rfl, rfl⟩ := hrel
    have hdk := deepLv_take_le l k
    by_cases hlt : k < l.length
    · obtain ⟨x, hx⟩ : ∃ x, l[k]? = some x := ⟨_, List.getElem?_eq_getElem hlt⟩
      obtain ⟨b, off, rfl, hbB, hc⟩ := b3 (by rintro rfl; simp at hlt)
      obtain ⟨cs, ⟨A7, c7, rfl, _, hok⟩, _, hu⟩ := hc k _ hx
      have e0 : w.cell? ⟨b, off + k * 5, none⟩ = some (.slice A7 x.1.length c7) := hu 0 _ rfl
      have hpl : 1 + x.1.length ≤ deepLv l := deepLv_le.1 (Nat.le_refl (deepLv l)) x (List.mem_of_getElem? hx)
      have HX := hid (deepLv_take hx)
      clear hu hc b3 hx hok
      go_wp2_with fail
      go_round
      case rel => exact ⟨k + 1, by omega, by go_num, by rw [HX.out, ← max_int]; first | rfl | (simp; done) | (simp; omega) | (congr 1; first | omega | (split <;> omega))⟩
      case measure => simp [intOf]; omega
    · obtain rfl : k = l.length := by omega
      rw [List.take_of_length_le (Nat.le_refl _)] at hdk ⊢
      go_wp2_with fail
      go_ret
      exact ⟨rfl, rfl⟩

def wrL (p : List ByteArray) (l : List Lf) : List Lf := l.map fun x => (p ++ x.1, x.2)
theorem wrL_take {l : List Lf} {k : Nat} {x : Lf} (h : l[k]? = some x) (p : List ByteArray) : wrL p (l.take (k + 1)) = wrL p (l.take k) ++ [(p ++ x.1, x.2)] := by
  unfold wrL; rw [List.take_add_one, h]; simp
theorem all_take {l : List ByteArray} {k : Nat} {x : ByteArray} (h : l[k]? = some x) : (l.take (k + 1)).all keyB = ((l.take k).all keyB && keyB x) := by
  rw [List.take_add_one, h, List.all_append]; simp
set_option maxHeartbeats 4000000 in
theorem r08wrap_any (t : Tr) (p : List ByteArray) (ve vk vp : Value) (w : World) (h : t.rd w w.heap.size ve vk) (hp : SlP w w.heap.size 1 StE vp p) (hN : t.sz ≤ 90000) (hpn : p.length ≤ 90000) (hD : deepLv (t.lvs []) ≤ 90000) :
    Calls Tryz.prog 24 #[.agg #[ve, vk], vp] w (RetTE w (wrapRT t p) (wrapRE t p)) := by
  have HC : Hid (∀ w', Below w.heap.size w w' → t.rd w' w'.heap.size ve vk) := fun w' hb => rd_below hb hb.size _ _ _ h
  have HP : Hid (∀ w', Below w.heap.size w w' → SlP w' w'.heap.size 1 StE vp p) := fun w' hb => hp.imp hb hb.size fun _ _ _ h => h
  have hlen := lvs_len t []
  have HE0 : Hid (wrapRE t p = if !(p.all keyB) then 1 else if decide (5 < p.length) || !(t.lvs []).isEmpty && decide (5 < deepLv (t.lvs []) + p.length) then 10 else 0) := rfl
  have HT0 : Hid (wrapRT t p = if wrapRE t p = 0 then buildL ((t.lvs []).map fun x => (p ++ x.1, x.2)) else .mk [] []) := rfl
  obtain ⟨A3, n3, A4, n4, rfl, rfl⟩ := rd_shape h
  obtain ⟨Ap, cp, rfl, p1, p2, p3⟩ := hp
  unfold Big at p2
  have hb0 : Below w.heap.size w ((w.alloc (.cells #[.slice A3 t.es.length n3, .slice A4 t.ks.length n4] 25)).alloc (.cells #[.slice none 0 0, .slice none 0 0] 25)) := ((Below.refl _ w).alloc (Nat.le_refl _) _).alloc (by simp) _
  have HW : Hid (∀ w', Below (w.heap.size + 2) ((w.alloc (.cells #[.slice A3 t.es.length n3, .slice A4 t.ks.length n4] 25)).alloc (.cells #[.slice none 0 0, .slice none 0 0] 25)) w' → Below w.heap.size w w' ∧ w.heap.size + 2 ≤ w'.heap.size ∧ w'.heap[w.heap.size]? = some (.cells #[.slice A3 t.es.length n3, .slice A4 t.ks.length n4] 25 (0, 0)) ∧ w'.heap[w.heap.size + 1]? = some (.cells #[.slice none 0 0, .slice none 0 0] 25 (0, 0))) := fun w' hb => by
    have hB : Below w.heap.size w w' := hb0.trans (hb.mono (by omega))
    exact ⟨hB, by have := hb.size; simpa using this, (hb.block _ (by omega)).trans ((heap_old (by simp)).trans (heap_new rfl)), (hb.block _ (by omega)).trans (heap_new (by simp))⟩
  clear h
  go_enter Tryz.func24, Tryz.ntmps24
  go_wp2_with fail
  go_loopw [12] (fun i wr => ∃ k : Nat, k ≤ p.length ∧ i = .int .i64 k ∧ Hid ((p.take k).all keyB = true) ∧ Below (w.heap.size + 2) ((w.alloc (.cells #[.slice A3 t.es.length n3, .slice A4 t.ks.length n4] 25)).alloc (.cells #[.slice none 0 0, .slice none 0 0] 25)) wr) (fun i _ => p.length - (intOf i).toNat)
  case atStart => exact ⟨0, Nat.zero_le _, rfl, rfl, Below.refl _ _⟩
  case round =>
    obtain ⟨k, hk, rfl, hrel, hb⟩ := hrel
    obtain ⟨hB, hsw, g2, g4⟩ := HW.out _ hb
    by_cases hlt : k < p.length
    · obtain ⟨x, hx⟩ : ∃ x, p[k]? = some x := ⟨_, List.getElem?_eq_getElem hlt⟩
      obtain ⟨b, off, rfl, hbB, hc⟩ := p3 (by rintro rfl; simp at hlt)
      obtain ⟨cs, ⟨rfl, hok⟩, _, hu⟩ := hc k _ hx
      have e0 : wr.cell? ⟨b, off + k, none⟩ = some (.string x) := (hB.cell (p := ⟨b, off + k, none⟩) hbB).trans (by simpa using hu 0 _ rfl)
      have HA := hid (all_take hx)
      have HM : Hid (x ∈ p) := List.mem_of_getElem? hx
      clear hu hc p3 hx g2 g4
      go_wp2_with fail
      refine (r08key_any x wr).mono ?_
      rintro e w1 ⟨rfl, hb1⟩
      have hbx := hid (hb.trans (hb1.mono hsw))
      obtain ⟨hB1, hs1, g2, g4⟩ := HW.out _ hbx.out
      have HG4 := hid g4
      have k0 : w1.cell? ⟨w.heap.size + 1, 0, none⟩ = some (.slice none 0 0) := cell_cells (i := 0) g4
      have k1 : w1.cell? ⟨w.heap.size + 1, 1, none⟩ = some (.slice none 0 0) := cell_cells (i := 1) g4
      have z0 := cells_frz (i := 0) g4
      have z1 := cells_frz (i := 1) g4
      clear g4
      clear hb1 g2
      cases hq : keyB x
      · have HE : Hid (wrapRE t p = 1) := by
          have : p.all keyB = false := List.all_eq_false.2 ⟨x, HM.out, by rw [hq]; simp⟩
          unfold Hid; rw [HE0.out, this]; rfl
        have HTT : Hid (wrapRT t p = .mk [] []) := by unfold Hid; rw [HT0.out, HE.out]; rfl
        clear hq
        go_wp2_with fail
        have hW0 := cells_set (i := 1) (cells_set (i := 0) HG4.out (.slice none 0 0)) (.slice none 0 0)
        have r0 := (cell_cells (i := 0) hW0).trans (show _ = some (.slice none 0 0) by simp)
        have r1 := (cell_cells (i := 1) hW0).trans (show _ = some (.slice none 0 0) by simp)
        refine bodyPost_ret (v := .tuple #[.agg #[.slice none 0 0, .slice none 0 0], .int .i64 1]) (by simp [results, Tryz.results24, go_sem, r0, r1]) rfl ⟨_, _, by rw [HE.out], by rw [HTT.out]; exact rda_nil _ _, ((hB1).setCell (by simp) _).setCell (by simp) _⟩
      · have HA2 : Hid ((p.take (k + 1)).all keyB = true) := by unfold Hid; rw [HA.out, hrel.out, hq]; rfl
        clear hq
        go_wp2_with fail
        go_roundw
        case rel => exact ⟨k + 1, by omega, by go_num, HA2.out, hbx.out⟩
        case measure => simp [intOf]; omega
    · obtain rfl : k = p.length := by omega
      have HK : Hid (p.all keyB = true) := by have := hrel.out; rw [List.take_of_length_le (Nat.le_refl _)] at this; exact this
      have c0 : wr.cell? ⟨w.heap.size, 0, none⟩ = some (.slice A3 t.es.length n3) := cell_cells (i := 0) g2
      have c1 : wr.cell? ⟨w.heap.size, 1, none⟩ = some (.slice A4 t.ks.length n4) := cell_cells (i := 1) g2
      clear hrel p3
      go_wp2_with fail
      refine (r08leaves_any t wr _ _ (HC.out _ hB) (by omega)).mono ?_
      rintro e w1 ⟨vl, rfl, hl, hbl⟩
      have hsl := hbl.size
      have HL0 : Hid (SlP w1 w1.heap.size 5 (LfA w1 (fun b => b < w1.heap.size)) vl (t.lvs [])) := (hl.sl LfA.mon (by unfold Big; omega)).imp (Below.refl _ _) (Nat.le_refl _) (fun _ _ _ hx => LfA.mon.up (fun _ _ => rfl) (fun b hb => hb.2) hx)
      have hB1 : Below w.heap.size w w1 := hB.trans (hbl.mono (by omega))
      have g4' := (hbl.block (w.heap.size + 1) (by omega)).trans g4
      have hs1 : w.heap.size + 2 ≤ w1.heap.size := by omega
      clear hl g2 g4 c0 c1 hbl hb
      have g4 := g4'
      clear g4'
      generalize t.lvs [] = ls at *
      obtain ⟨Al, nl, hvl, _⟩ : ∃ Al nl, vl = .slice Al ls.length nl ∧ True := by obtain ⟨Al, nl, e, _⟩ := HL0.out; exact ⟨Al, nl, e, trivial⟩
      subst hvl
      have HG4 := hid g4
      have k0 : w1.cell? ⟨w.heap.size + 1, 0, none⟩ = some (.slice none 0 0) := cell_cells (i := 0) g4
      have k1 : w1.cell? ⟨w.heap.size + 1, 1, none⟩ = some (.slice none 0 0) := cell_cells (i := 1) g4
      have z0 := cells_frz (i := 0) g4
      have z1 := cells_frz (i := 1) g4
      clear g4
      have hp5 : decide ((5 : Int) < (p.length : Int)) = decide (5 < p.length) := by rw [Bool.eq_iff_iff]; simp; omega
      cases h5 : decide (5 < p.length)
      case true =>
        have HE : Hid (wrapRE t p = 10) := by unfold Hid; rw [HE0.out, HK.out, h5]; rfl
        have HTT : Hid (wrapRT t p = .mk [] []) := by unfold Hid; rw [HT0.out, HE.out]; rfl
        rw [h5] at hp5
        clear h5
        go_wp2_with fail
        have hW0 := cells_set (i := 1) (cells_set (i := 0) HG4.out (.slice none 0 0)) (.slice none 0 0)
        have r0 := (cell_cells (i := 0) hW0).trans (show _ = some (.slice none 0 0) by simp)
        have r1 := (cell_cells (i := 1) hW0).trans (show _ = some (.slice none 0 0) by simp)
        refine bodyPost_ret (v := .tuple #[.agg #[.slice none 0 0, .slice none 0 0], .int .i64 10]) (by simp [results, Tryz.results24, go_sem, r0, r1]) rfl ⟨_, _, by rw [HE.out], by rw [HTT.out]; exact rda_nil _ _, ((hB1).setCell (by simp) _).setCell (by simp) _⟩
      rw [h5] at hp5
      rcases Nat.eq_zero_or_pos ls.length with hz | hz
      · have hem : ls.isEmpty = true := by rw [List.isEmpty_iff]; exact List.eq_nil_of_length_eq_zero hz
        have HE : Hid (wrapRE t p = 0) := by unfold Hid; rw [HE0.out, HK.out, h5, hem]; rfl
        have HTT : Hid (wrapRT t p = buildL (ls.map fun x => (p ++ x.1, x.2))) := by unfold Hid; rw [HT0.out, HE.out, if_pos rfl]
        have hz1 : decide ((0 : Int) < (ls.length : Int)) = false := by rw [hz]; decide
        have hz2 : decide (0 < ls.length) = false := by rw [hz]; decide
        clear h5 hem hz k0 k1 z0 z1
        go_wp2_with fail
        go_loopw [8, 44] (fun v i wr => ∃ k : Nat, k ≤ ls.length ∧ i = .int .i64 k ∧ OwnD wr w1.heap.size 85 5 LfA (fun b => w1.heap.size ≤ b) v (wrL p (ls.take k)) ∧ Below w1.heap.size w1 wr) (fun _ i _ => ls.length - (intOf i).toNat)
        case atStart => exact ⟨0, Nat.zero_le _, rfl, OwnD.nil, Below.refl _ _⟩
        case round =>
          obtain ⟨k, hk, rfl, hown, hb⟩ := hrel
          have hsz := hb.size
          by_cases hlt : k < ls.length
          · obtain ⟨x, hx⟩ : ∃ x, ls[k]? = some x := ⟨_, List.getElem?_eq_getElem hlt⟩
            obtain ⟨Al, nl, hvl, hl1, hl2, hl3⟩ := HL0.out
            cases hvl
            obtain ⟨b, off, rfl, hbB, hc⟩ := hl3 (by rintro rfl; simp at hlt)
            obtain ⟨cs, ⟨A7, c7, rfl, hsp, hok⟩, _, hu⟩ := hc k _ hx
            have HS : Hid (∀ w', Below w1.heap.size w1 w' → w'.cell? ⟨b, off + k * 5, none⟩ = some (.slice A7 x.1.length c7) ∧ w'.cell? ⟨b, off + k * 5 + 1, none⟩ = some (.int .i64 x.2.dc) ∧ w'.cell? ⟨b, off + k * 5 + 2, none⟩ = some (.int .i64 x.2.n) ∧ w'.cell? ⟨b, off + k * 5 + 3, none⟩ = some (.string x.2.s) ∧ w'.cell? ⟨b, off + k * 5 + 4, none⟩ = some (.int .i64 x.2.v)) := fun w' hb' =>
              ⟨(hb'.cell (p := ⟨b, off + k * 5, none⟩) hbB).trans (hu 0 _ rfl), (hb'.cell (p := ⟨b, off + k * 5 + 1, none⟩) hbB).trans (hu 1 _ rfl), (hb'.cell (p := ⟨b, off + k * 5 + 2, none⟩) hbB).trans (hu 2 _ rfl), (hb'.cell (p := ⟨b, off + k * 5 + 3, none⟩) hbB).trans (hu 3 _ rfl), (hb'.cell (p := ⟨b, off + k * 5 + 4, none⟩) hbB).trans (hu 4 _ rfl)⟩
            have HLP : Hid (∀ w', Below w1.heap.size w1 w' → SlP w' w'.heap.size 1 StE (.slice A7 x.1.length c7) x.1) := fun w' hb' => hsp.slp (fun b hb => hb) hb'
            have HPP : Hid (∀ w', Below w1.heap.size w1 w' → SlP w' w'.heap.size 1 StE (.slice Ap p.length cp) p) := fun w' hb' => HP.out _ (hB1.trans (hb'.mono (by omega)))
            have hpl : 1 + x.1.length ≤ deepLv ls := deepLv_le.1 (Nat.le_refl (deepLv ls)) x (List.mem_of_getElem? hx)
            obtain ⟨Q, hQ⟩ : ∃ Q, Q = p ++ x.1 := ⟨_, rfl⟩
            have HX : Hid (wrL p (ls.take (k + 1)) = wrL p (ls.take k) ++ [(Q, x.2)]) := by unfold Hid; rw [hQ]; exact wrL_take hx p
            have HL : Hid ((wrL p (ls.take k)).length + [(Q, x.2)].length ≤ Few) := by unfold Hid Few wrL; simp; omega
            have hQl : Q.length ≤ 900000 := by rw [hQ, List.length_append]; omega
            have HQ := hid hQ
            obtain ⟨f0, f1, f2, f3, f4⟩ := HS.out wr hb
            clear hu hc hl3 hx hsp hQ
            go_upto_region 14 with (fail)
            go_region_held3 (fun w' => w'.cell? ⟨b, off + k * 5, none⟩ = some (.slice A7 x.1.length c7) ∧ w'.cell? ⟨b, off + k * 5 + 1, none⟩ = some (.int .i64 x.2.dc) ∧ w'.cell? ⟨b, off + k * 5 + 2, none⟩ = some (.int .i64 x.2.n) ∧ w'.cell? ⟨b, off + k * 5 + 3, none⟩ = some (.string x.2.s) ∧ w'.cell? ⟨b, off + k * 5 + 4, none⟩ = some (.int .i64 x.2.v))
              (first | go_keep | exact HS.out _ (hb.trans hq64) | exact HS.out _ (hb.trans (hq56.mono (by omega))) | exact HS.out _ (hb.trans (hq50.mono (by omega))))
              (first
                | (go_loud (refine step_few (v := .slice (some ⟨_, 0, none⟩) 0 0) rfl (.tmp 48) (.tmp 49) _ rfl eiStr (by decide) (by decide) (fun _ _ h => StE.one h) rfl (OwnP.empty (base := wr.heap.size) (by first | exact heap_new rfl | exact (heap_old (by simp)).trans (heap_new rfl) | exact heap_new (by simp)) (by omega)) rfl (HPP.out _ (hb.trans (Below.mono (by go_grown : Below wr.heap.size wr _) (by omega)))) (by unfold Few; simp; omega) (by first | (simp; done) | (simp; omega)) ?_); intro v50 w50 hown50 hb50 hg50; have hq50 : Below wr.heap.size wr w50 := Below.trans (by go_grown) hb50; have hs50 := hq50.size)
                | (go_loud (refine step_few rfl (.tmp 50) (.tmp 55) _ rfl eiStr (by decide) (by decide) (fun _ _ h => StE.one h) rfl hown50 rfl (HLP.out _ (hb.trans (hq50.mono (by omega)))) (by unfold Few; simp; omega) (by omega) ?_); intro v56 w56 hown56 hb56 hg56; have hq56 : Below wr.heap.size wr w56 := hq50.trans hb56; have hs56 := hq56.size; rw [List.nil_append, ← HQ.out] at hown56; obtain ⟨A56, c56, hv56⟩ := hown56.shape; subst hv56; have HO56 : Hid (SlA w56 (fun b => wr.heap.size ≤ b ∧ b < w56.heap.size) 1 StE (.slice A56 Q.length c56) Q) := (hown56.sla (by unfold Big; omega)).up (fun _ _ => rfl) (fun _ h => ⟨h.1, h.2.1⟩) fun _ _ _ h => h)
                | (go_loud (refine step_d rfl (.tmp 47) (.tmp 63) _ rfl LfA.mon eiLeaf (by decide) (by decide) rfl (hown.grow LfA.mon (hq56.alloc hs56 _)) rfl (SlP.oneB (w := w56) (E := LfA _ _) (x := (Q, x.2)) ⟨_, _, rfl, HO56.out.up (fun b hb => heap_old hb.2) (fun b hb => ⟨by omega, by rw [World.size_alloc]; omega, fun e => by have := (OwnD.lt hown b e).2; omega⟩) (fun _ _ _ h => h), hok⟩ rfl _ rfl (by rw [World.size_alloc]; omega)) HL.out (by rw [World.size_alloc]; omega) ?_); intro v64 w64 hown64 hb64 hg64 _; have hq64 : Below w1.heap.size wr w64 := ((hq56.alloc hs56 _).mono hsz).trans hb64))
            all_goals
              go_wp2_with fail
              go_roundw
              case rel => exact ⟨k + 1, by omega, by go_num, by rw [HX.out]; exact hown64, hb.trans hq64⟩
              case measure => simp [intOf]; omega
          · obtain rfl : k = ls.length := by omega
            rw [List.take_of_length_le (Nat.le_refl _)] at hown
            have hwl : (wrL p ls).length = ls.length := by unfold wrL; rw [List.length_map]
            have HO : Hid (SlP wr wr.heap.size 5 (LfA wr (fun b => b < wr.heap.size)) _ (wrL p ls)) := (hown.sl LfA.mon (by unfold Big; omega)).imp (Below.refl _ _) (Nat.le_refl _) (fun _ _ _ hx => LfA.mon.up (fun _ _ => rfl) (fun b hb => hb.2) hx)
            have HTB : Hid (wrapRT t p = buildL (wrL p ls)) := by unfold Hid; rw [HTT.out]; rfl
            clear hown
            go_wp2_with fail
            refine (r08buildL_any (wrL p ls) _ wr HO.out (by omega)).mono ?_
            rintro e w3 ⟨ve3, vk3, rfl, hrd3, hb3⟩
            obtain ⟨Av, nv, Aw, nw, rfl, rfl⟩ := rda_shape hrd3
            generalize buildL (wrL p ls) = U at *
            have hs3 := hb3.size
            have hB3 : Below w.heap.size w w3 := (hB1.trans (hb.mono (by omega))).trans (hb3.mono (by omega))
            have g4 := (hb3.block (w.heap.size + 1) (by omega)).trans ((hb.block (w.heap.size + 1) (by omega)).trans HG4.out)
            have HRU := hid hrd3
            clear hb3 hrd3 HG4
            have HG4 := hid g4
            have k0 : w3.cell? ⟨w.heap.size + 1, 0, none⟩ = some (.slice none 0 0) := cell_cells (i := 0) g4
            have k1 : w3.cell? ⟨w.heap.size + 1, 1, none⟩ = some (.slice none 0 0) := cell_cells (i := 1) g4
            have z0 := cells_frz (i := 0) g4
            have z1 := cells_frz (i := 1) g4
            clear g4
            go_wp2_with fail
            obtain ⟨r0, r1, hrW, hsW⟩ := box_tree HG4.out HRU.out (fun b hb => by have := hb.1; omega)
            refine bodyPost_ret (v := .tuple #[.agg #[.slice Av U.es.length nv, .slice Aw U.ks.length nw], .int .i64 0]) (by simp [results, Tryz.results24, go_sem, r0, r1]) rfl ⟨_, _, by rw [HE.out], ?_, (hB3.setCell (by simp) _).setCell (by simp) _⟩
            rw [HTB.out]
            exact rda_up (fun _ _ => rfl) (fun b hb => ⟨by have := hb.1; omega, by rw [hsW]; exact hb.2⟩) _ _ _ hrW
      · have hem : ls.isEmpty = false := by cases ls with | nil => simp at hz | cons _ _ => rfl
        have hz1 : decide ((0 : Int) < (ls.length : Int)) = true := by simp; omega
        have hz2 : decide (0 < ls.length) = true := by simp; omega
        go_wp2_with fail
        refine (r08deep_any ls _ _ w1 w1.heap.size HL0.out (by omega) (by omega)).mono ?_
        rintro e w2 ⟨rfl, rfl⟩
        have hd5 : decide ((5 : Int) < (deepLv ls : Int) + (p.length : Int)) = decide (5 < deepLv ls + p.length) := by rw [Bool.eq_iff_iff]; simp; omega
        cases h6 : decide (5 < deepLv ls + p.length)
        case true =>
          have HE : Hid (wrapRE t p = 10) := by unfold Hid; rw [HE0.out, HK.out, h5, hem, h6]; rfl
          have HTT : Hid (wrapRT t p = .mk [] []) := by unfold Hid; rw [HT0.out, HE.out]; rfl
          rw [h6] at hd5
          clear h5 h6 hem
          go_wp2_with fail
          have hW0 := cells_set (i := 1) (cells_set (i := 0) HG4.out (.slice none 0 0)) (.slice none 0 0)
          have r0 := (cell_cells (i := 0) hW0).trans (show _ = some (.slice none 0 0) by simp)
          have r1 := (cell_cells (i := 1) hW0).trans (show _ = some (.slice none 0 0) by simp)
          refine bodyPost_ret (v := .tuple #[.agg #[.slice none 0 0, .slice none 0 0], .int .i64 10]) (by simp [results, Tryz.results24, go_sem, r0, r1]) rfl ⟨_, _, by rw [HE.out], by rw [HTT.out]; exact rda_nil _ _, ((hB1).setCell (by simp) _).setCell (by simp) _⟩
        have HE : Hid (wrapRE t p = 0) := by unfold Hid; rw [HE0.out, HK.out, h5, hem, h6]; rfl
        have HTT : Hid (wrapRT t p = buildL (ls.map fun x => (p ++ x.1, x.2))) := by unfold Hid; rw [HT0.out, HE.out, if_pos rfl]
        rw [h6] at hd5
        clear h5 h6 hem k0 k1 z0 z1
        go_wp2_with fail
        go_loopw [8, 44] (fun v i wr => ∃ k : Nat, k ≤ ls.length ∧ i = .int .i64 k ∧ OwnD wr w1.heap.size 85 5 LfA (fun b => w1.heap.size ≤ b) v (wrL p (ls.take k)) ∧ Below w1.heap.size w1 wr) (fun _ i _ => ls.length - (intOf i).toNat)
        case atStart => exact ⟨0, Nat.zero_le _, rfl, OwnD.nil, Below.refl _ _⟩
        case round =>
          obtain ⟨k, hk, rfl, hown, hb⟩ := hrel
          have hsz := hb.size
          by_cases hlt : k < ls.length
          · obtain ⟨x, hx⟩ : ∃ x, ls[k]? = some x := ⟨_, List.getElem?_eq_getElem hlt⟩
            obtain ⟨Al, nl, hvl, hl1, hl2, hl3⟩ := HL0.out
            cases hvl
            obtain ⟨b, off, rfl, hbB, hc⟩ := hl3 (by rintro rfl; simp at hlt)
            obtain ⟨cs, ⟨A7, c7, rfl, hsp, hok⟩, _, hu⟩ := hc k _ hx
            have HS : Hid (∀ w', Below w1.heap.size w1 w' → w'.cell? ⟨b, off + k * 5, none⟩ = some (.slice A7 x.1.length c7) ∧ w'.cell? ⟨b, off + k * 5 + 1, none⟩ = some (.int .i64 x.2.dc) ∧ w'.cell? ⟨b, off + k * 5 + 2, none⟩ = some (.int .i64 x.2.n) ∧ w'.cell? ⟨b, off + k * 5 + 3, none⟩ = some (.string x.2.s) ∧ w'.cell? ⟨b, off + k * 5 + 4, none⟩ = some (.int .i64 x.2.v)) := fun w' hb' =>
              ⟨(hb'.cell (p := ⟨b, off + k * 5, none⟩) hbB).trans (hu 0 _ rfl), (hb'.cell (p := ⟨b, off + k * 5 + 1, none⟩) hbB).trans (hu 1 _ rfl), (hb'.cell (p := ⟨b, off + k * 5 + 2, none⟩) hbB).trans (hu 2 _ rfl), (hb'.cell (p := ⟨b, off + k * 5 + 3, none⟩) hbB).trans (hu 3 _ rfl), (hb'.cell (p := ⟨b, off + k * 5 + 4, none⟩) hbB).trans (hu 4 _ rfl)⟩
            have HLP : Hid (∀ w', Below w1.heap.size w1 w' → SlP w' w'.heap.size 1 StE (.slice A7 x.1.length c7) x.1) := fun w' hb' => hsp.slp (fun b hb => hb) hb'
            have HPP : Hid (∀ w', Below w1.heap.size w1 w' → SlP w' w'.heap.size 1 StE (.slice Ap p.length cp) p) := fun w' hb' => HP.out _ (hB1.trans (hb'.mono (by omega)))
            have hpl : 1 + x.1.length ≤ deepLv ls := deepLv_le.1 (Nat.le_refl (deepLv ls)) x (List.mem_of_getElem? hx)
            obtain ⟨Q, hQ⟩ : ∃ Q, Q = p ++ x.1 := ⟨_, rfl⟩
            have HX : Hid (wrL p (ls.take (k + 1)) = wrL p (ls.take k) ++ [(Q, x.2)]) := by unfold Hid; rw [hQ]; exact wrL_take hx p
            have HL : Hid ((wrL p (ls.take k)).length + [(Q, x.2)].length ≤ Few) := by unfold Hid Few wrL; simp; omega
            have hQl : Q.length ≤ 900000 := by rw [hQ, List.length_append]; omega
            have HQ := hid hQ
            obtain ⟨f0, f1, f2, f3, f4⟩ := HS.out wr hb
            clear hu hc hl3 hx hsp hQ
            go_upto_region 14 with (fail)
            go_region_held3 (fun w' => w'.cell? ⟨b, off + k * 5, none⟩ = some (.slice A7 x.1.length c7) ∧ w'.cell? ⟨b, off + k * 5 + 1, none⟩ = some (.int .i64 x.2.dc) ∧ w'.cell? ⟨b, off + k * 5 + 2, none⟩ = some (.int .i64 x.2.n) ∧ w'.cell? ⟨b, off + k * 5 + 3, none⟩ = some (.string x.2.s) ∧ w'.cell? ⟨b, off + k * 5 + 4, none⟩ = some (.int .i64 x.2.v))
              (first | go_keep | exact HS.out _ (hb.trans hq64) | exact HS.out _ (hb.trans (hq56.mono (by omega))) | exact HS.out _ (hb.trans (hq50.mono (by omega))))
              (first
                | (go_loud (refine step_few (v := .slice (some ⟨_, 0, none⟩) 0 0) rfl (.tmp 48) (.tmp 49) _ rfl eiStr (by decide) (by decide) (fun _ _ h => StE.one h) rfl (OwnP.empty (base := wr.heap.size) (by first | exact heap_new rfl | exact (heap_old (by simp)).trans (heap_new rfl) | exact heap_new (by simp)) (by omega)) rfl (HPP.out _ (hb.trans (Below.mono (by go_grown : Below wr.heap.size wr _) (by omega)))) (by unfold Few; simp; omega) (by first | (simp; done) | (simp; omega)) ?_); intro v50 w50 hown50 hb50 hg50; have hq50 : Below wr.heap.size wr w50 := Below.trans (by go_grown) hb50; have hs50 := hq50.size)
                | (go_loud (refine step_few rfl (.tmp 50) (.tmp 55) _ rfl eiStr (by decide) (by decide) (fun _ _ h => StE.one h) rfl hown50 rfl (HLP.out _ (hb.trans (hq50.mono (by omega)))) (by unfold Few; simp; omega) (by omega) ?_); intro v56 w56 hown56 hb56 hg56; have hq56 : Below wr.heap.size wr w56 := hq50.trans hb56; have hs56 := hq56.size; rw [List.nil_append, ← HQ.out] at hown56; obtain ⟨A56, c56, hv56⟩ := hown56.shape; subst hv56; have HO56 : Hid (SlA w56 (fun b => wr.heap.size ≤ b ∧ b < w56.heap.size) 1 StE (.slice A56 Q.length c56) Q) := (hown56.sla (by unfold Big; omega)).up (fun _ _ => rfl) (fun _ h => ⟨h.1, h.2.1⟩) fun _ _ _ h => h)
                | (go_loud (refine step_d rfl (.tmp 47) (.tmp 63) _ rfl LfA.mon eiLeaf (by decide) (by decide) rfl (hown.grow LfA.mon (hq56.alloc hs56 _)) rfl (SlP.oneB (w := w56) (E := LfA _ _) (x := (Q, x.2)) ⟨_, _, rfl, HO56.out.up (fun b hb => heap_old hb.2) (fun b hb => ⟨by omega, by rw [World.size_alloc]; omega, fun e => by have := (OwnD.lt hown b e).2; omega⟩) (fun _ _ _ h => h), hok⟩ rfl _ rfl (by rw [World.size_alloc]; omega)) HL.out (by rw [World.size_alloc]; omega) ?_); intro v64 w64 hown64 hb64 hg64 _; have hq64 : Below w1.heap.size wr w64 := ((hq56.alloc hs56 _).mono hsz).trans hb64))
            all_goals
              go_wp2_with fail
              go_roundw
              case rel => exact ⟨k + 1, by omega, by go_num, by rw [HX.out]; exact hown64, hb.trans hq64⟩
              case measure => simp [intOf]; omega
          · obtain rfl : k = ls.length := by omega
            rw [List.take_of_length_le (Nat.le_refl _)] at hown
            have hwl : (wrL p ls).length = ls.length := by unfold wrL; rw [List.length_map]
            have HO : Hid (SlP wr wr.heap.size 5 (LfA wr (fun b => b < wr.heap.size)) _ (wrL p ls)) := (hown.sl LfA.mon (by unfold Big; omega)).imp (Below.refl _ _) (Nat.le_refl _) (fun _ _ _ hx => LfA.mon.up (fun _ _ => rfl) (fun b hb => hb.2) hx)
            have HTB : Hid (wrapRT t p = buildL (wrL p ls)) := by unfold Hid; rw [HTT.out]; rfl
            clear hown
            go_wp2_with fail
            refine (r08buildL_any (wrL p ls) _ wr HO.out (by omega)).mono ?_
            rintro e w3 ⟨ve3, vk3, rfl, hrd3, hb3⟩
            obtain ⟨Av, nv, Aw, nw, rfl, rfl⟩ := rda_shape hrd3
            generalize buildL (wrL p ls) = U at *
            have hs3 := hb3.size
            have hB3 : Below w.heap.size w w3 := (hB1.trans (hb.mono (by omega))).trans (hb3.mono (by omega))
            have g4 := (hb3.block (w.heap.size + 1) (by omega)).trans ((hb.block (w.heap.size + 1) (by omega)).trans HG4.out)
            have HRU := hid hrd3
            clear hb3 hrd3 HG4
            have HG4 := hid g4
            have k0 : w3.cell? ⟨w.heap.size + 1, 0, none⟩ = some (.slice none 0 0) := cell_cells (i := 0) g4
            have k1 : w3.cell? ⟨w.heap.size + 1, 1, none⟩ = some (.slice none 0 0) := cell_cells (i := 1) g4
            have z0 := cells_frz (i := 0) g4
            have z1 := cells_frz (i := 1) g4
            clear g4
            go_wp2_with fail
            obtain ⟨r0, r1, hrW, hsW⟩ := box_tree HG4.out HRU.out (fun b hb => by have := hb.1; omega)
            refine bodyPost_ret (v := .tuple #[.agg #[.slice Av U.es.length nv, .slice Aw U.ks.length nw], .int .i64 0]) (by simp [results, Tryz.results24, go_sem, r0, r1]) rfl ⟨_, _, by rw [HE.out], ?_, (hB3.setCell (by simp) _).setCell (by simp) _⟩
            rw [HTB.out]
            exact rda_up (fun _ _ => rfl) (fun b hb => ⟨by have := hb.1; omega, by rw [hsW]; exact hb.2⟩) _ _ _ hrW
end Go.Proofs.YtdcmjmcipgadlaaGreat

namespace Go.Proofs.YtdcmjmcipgadlaaGreat
open Go.RowKit
set_option maxRecDepth 100000

theorem wrapE_or {t : Tr} {s : ByteArray} (h : t.right 5 = true) (hk : keyB s = true) : wrapE t s = 0 ∨ wrapE t s = 10 := by
  unfold wrapE; rw [h, hk]
  simp only [Bool.not_true, Bool.or_false, Bool.false_eq_true, if_false]
  split <;> simp
set_option maxHeartbeats 4000000 in
theorem lawOU_any (t : Tr) (key : ByteArray) (D : Tr) (c : List Sp) (w : World) (ve vk xe xk xc : Value) (h : t.rd w w.heap.size ve vk) (hkey : key.size ≤ Big) (hD : D.rd w w.heap.size xe xk) (hc : SlP w w.heap.size 3 SpE xc c) :
    Calls Tryz.prog 3 #[.agg #[ve, vk], .string key, .agg #[xe, xk, xc]] w fun e w' => e = .returned (.bool true) ∧ Below w.heap.size w w' := by
  have HC : Hid (∀ w', Below w.heap.size w w' → t.rd w' w'.heap.size ve vk) := fun w' hb => rd_below hb hb.size _ _ _ h
  have HD : Hid (∀ w', Below w.heap.size w w' → D.rd w' w'.heap.size xe xk) := fun w' hb => rd_below hb hb.size _ _ _ hD
  have HS : Hid (∀ w', Below w.heap.size w w' → SlP w' w'.heap.size 3 SpE xc c) := fun w' hb => hc.imp hb hb.size fun _ _ _ h => h
  obtain ⟨A3, n3, A4, n4, rfl, rfl⟩ := rd_shape h
  obtain ⟨A5, n5, A6, n6, rfl, rfl⟩ := rd_shape hD
  obtain ⟨A7, n7, rfl, _⟩ := hc
  clear h hD
  have HB : Hid (∀ w', Below (w.heap.size + 2) ((w.alloc (.cells #[.slice A3 t.es.length n3, .slice A4 t.ks.length n4] 25)).alloc (.cells #[.slice A5 D.es.length n5, .slice A6 D.ks.length n6, .slice A7 c.length n7] 29)) w' → Below w.heap.size w w' ∧ w.heap.size + 2 ≤ w'.heap.size ∧ w'.cell? ⟨w.heap.size, 0, none⟩ = some (.slice A3 t.es.length n3) ∧ w'.cell? ⟨w.heap.size, 1, none⟩ = some (.slice A4 t.ks.length n4) ∧ w'.cell? ⟨w.heap.size + 1, 0, none⟩ = some (.slice A5 D.es.length n5) ∧ w'.cell? ⟨w.heap.size + 1, 1, none⟩ = some (.slice A6 D.ks.length n6) ∧ w'.cell? ⟨w.heap.size + 1, 2, none⟩ = some (.slice A7 c.length n7)) := fun w' hb => by
    refine ⟨(((Below.refl _ w).alloc (Nat.le_refl _) _).alloc (by simp) _).trans (hb.mono (by omega)), by have := hb.size; simpa using this, ?_, ?_, ?_, ?_, ?_⟩
    · rw [hb.cell (p := ⟨w.heap.size, 0, none⟩) (by simp), World.cell?_alloc_lt _ _ _ (by simp)]; simp
    · rw [hb.cell (p := ⟨w.heap.size, 1, none⟩) (by simp), World.cell?_alloc_lt _ _ _ (by simp)]; simp
    · rw [hb.cell (p := ⟨w.heap.size + 1, 0, none⟩) (by simp)]; simp
    · rw [hb.cell (p := ⟨w.heap.size + 1, 1, none⟩) (by simp)]; simp
    · rw [hb.cell (p := ⟨w.heap.size + 1, 2, none⟩) (by simp)]; simp
  go_enter Tryz.func3, Tryz.ntmps3
  go_wp2_with fail
  refine (awake14_any _).mono ?_
  rintro e w1 ⟨rfl, hb1⟩
  have hb1' := hid (hb1.mono (show w.heap.size + 2 ≤ _ by simp))
  clear hb1
  obtain ⟨hB1, hs1, c0, c1, e0, e1, e2⟩ := HB.out _ hb1'.out
  go_wp2_with fail
  refine (small14_any t w1 _ _ (HC.out _ hB1)).mono ?_
  rintro e w2 ⟨rfl, hb2⟩
  have hb2' := hid (hb1'.out.trans (hb2.mono hs1))
  clear hb2 c0 c1 e0 e1 e2
  obtain ⟨hB2, hs2, c0, c1, e0, e1, e2⟩ := HB.out _ hb2'.out
  cases hsm : smlB t 60
  · clear hsm
    go_wp2_with fail
    refine (awake14_any _).mono ?_
    rintro e w9 ⟨rfl, hb9⟩
    have hb9' := hb2'.out.trans (hb9.mono hs2)
    go_wp2_with fail
    go_ret
    exact ⟨rfl, (HB.out _ hb9').1⟩
  have hsz4 : t.sz ≤ 4000 := by have := sml_sz hsm; omega
  clear hsm
  go_wp2_with fail
  refine (r09small_any D c 40 _ _ _ w2 (HD.out _ hB2) (HS.out _ hB2) (by omega) (by omega)).mono ?_
  rintro e w4 ⟨rfl, hb4⟩
  have hb4' := hid (hb2'.out.trans (hb4.mono hs2))
  clear hb4 c0 c1 e0 e1 e2
  obtain ⟨hB4, hs4, c0, c1, e0, e1, e2⟩ := HB.out _ hb4'.out
  cases hsm : sml9 D c 40
  · clear hsm
    go_wp2_with fail
    refine (awake14_any _).mono ?_
    rintro e w9 ⟨rfl, hb9⟩
    have hb9' := hb4'.out.trans (hb9.mono hs4)
    go_wp2_with fail
    go_ret
    exact ⟨rfl, (HB.out _ hb9').1⟩
  have hDz : D.sz ≤ 4000 := by unfold sml9 at hsm; rw [Bool.and_eq_true] at hsm; have := sml_sz hsm.1; omega
  have hcz : c.length ≤ 20000 := by unfold sml9 at hsm; rw [Bool.and_eq_true, decide_eq_true_eq] at hsm; omega
  clear hsm
  have hll := lvs_len D []
  have hdl : deepLv (D.lvs []) ≤ 90000 ∨ True := .inr trivial
  go_wp2_with fail
  refine (oupdate_any t D c key _ _ _ _ _ w4 (HC.out _ hB4) (HD.out _ hB4) (HS.out _ hB4) hkey hsz4 hDz hcz).mono ?_
  rintro e w3 ⟨ve3, vk3, vc3, rfl, hrd, hsc, hb3⟩
  have hb3' := hid (hb4'.out.trans (hb3.mono hs4))
  clear hb3 c0 c1 e0 e1 e2
  obtain ⟨hB3, hs3, c0, c1, e0, e1, e2⟩ := HB.out _ hb3'.out
  have HT1 : Hid (updT t key D c = if updE t key D c = 0 then wrapT D key else .mk [] []) := rfl
  have HC1 : Hid (updC t key D c = if updE t key D c = 0 then c else []) := rfl
  obtain ⟨k, hk0⟩ : ∃ k, k = updE t key D c := ⟨_, rfl⟩
  rw [← hk0] at HT1 HC1 ⊢
  have HE1 := hid hk0
  clear hk0
  generalize updT t key D c = T at *
  generalize updC t key D c = C at *
  obtain ⟨Ae, ne, Ak, nk, rfl, rfl⟩ := rda_shape hrd
  obtain ⟨Ac, nc, rfl⟩ := hsc.shape
  have HT : Hid (∀ w', Below w3.heap.size w3 w' → T.rd w' w'.heap.size (.slice Ae T.es.length ne) (.slice Ak T.ks.length nk)) := fun w' hb => rda_rd hrd (fun b hb => hb.2) hb
  have HCt : Hid (∀ w', Below w3.heap.size w3 w' → SlP w' w'.heap.size 3 SpE (.slice Ac C.length nc) C) := fun w' hb => hsc.slp (fun b hb => hb.2) hb
  have HX : Hid (∀ w', Below (w3.heap.size + 1) (w3.alloc (.cells #[.slice Ae T.es.length ne, .slice Ak T.ks.length nk, .slice Ac C.length nc] 29)) w' → Below w.heap.size w w' ∧ Below w3.heap.size w3 w' ∧ w3.heap.size + 1 ≤ w'.heap.size ∧ w'.cell? ⟨w.heap.size, 0, none⟩ = some (.slice A3 t.es.length n3) ∧ w'.cell? ⟨w.heap.size, 1, none⟩ = some (.slice A4 t.ks.length n4) ∧ w'.cell? ⟨w.heap.size + 1, 0, none⟩ = some (.slice A5 D.es.length n5) ∧ w'.cell? ⟨w.heap.size + 1, 1, none⟩ = some (.slice A6 D.ks.length n6) ∧ w'.cell? ⟨w.heap.size + 1, 2, none⟩ = some (.slice A7 c.length n7) ∧
      w'.cell? ⟨w3.heap.size, 0, none⟩ = some (.slice Ae T.es.length ne) ∧ w'.cell? ⟨w3.heap.size, 1, none⟩ = some (.slice Ak T.ks.length nk) ∧ w'.cell? ⟨w3.heap.size, 2, none⟩ = some (.slice Ac C.length nc)) := fun w' hb => by
    have hB : Below w3.heap.size w3 w' := ((Below.refl _ w3).alloc (Nat.le_refl _) _).trans (hb.mono (by omega))
    refine ⟨hB3.trans (hB.mono (by omega)), hB, by have := hb.size; simpa using this, ?_, ?_, ?_, ?_, ?_, ?_, ?_, ?_⟩
    · rw [hB.cell (p := ⟨w.heap.size, 0, none⟩) (by show w.heap.size < _; omega)]; exact c0
    · rw [hB.cell (p := ⟨w.heap.size, 1, none⟩) (by show w.heap.size < _; omega)]; exact c1
    · rw [hB.cell (p := ⟨w.heap.size + 1, 0, none⟩) (by show w.heap.size + 1 < _; omega)]; exact e0
    · rw [hB.cell (p := ⟨w.heap.size + 1, 1, none⟩) (by show w.heap.size + 1 < _; omega)]; exact e1
    · rw [hB.cell (p := ⟨w.heap.size + 1, 2, none⟩) (by show w.heap.size + 1 < _; omega)]; exact e2
    · rw [hb.cell (p := ⟨w3.heap.size, 0, none⟩) (by simp), World.cell?_alloc_new]; rfl
    · rw [hb.cell (p := ⟨w3.heap.size, 1, none⟩) (by simp), World.cell?_alloc_new]; rfl
    · rw [hb.cell (p := ⟨w3.heap.size, 2, none⟩) (by simp), World.cell?_alloc_new]; rfl
  have hlt3 : w.heap.size + 1 < w3.heap.size := by omega
  have hne3 : w.heap.size + 1 ≠ w3.heap.size := by omega
  have hlt4 : w.heap.size < w3.heap.size := by omega
  have hne4 : w.heap.size ≠ w3.heap.size := by omega
  clear hrd hsc
  go_wp2_with fail
  refine (r08Right_any t _ _ _ (HC.out _ (HX.out _ (Below.refl _ _)).1)).mono ?_
  rintro e w5 ⟨rfl, hb5⟩
  clear c0 c1 e0 e1 e2
  have hb5' := hid (hb5.mono (show w3.heap.size + 1 ≤ _ by simp))
  obtain ⟨hB5, hy5, hs5, c0, c1, e0, e1, e2, x0, x1, x2⟩ := HX.out _ hb5'.out
  clear hb5
  cases r1 : t.right 5
  · have HBD : Hid ((!(t.right 5) || !caR D c || !keyB key) = true) := by unfold Hid; rw [r1]; rfl
    clear r1
    have hk : k = 1 := by rw [HE1.out]; unfold updE; rw [HBD.out]; rfl
    subst hk
    have HSM : Hid ((trEq T (.mk [] []) && decide (C = [])) = true) := by unfold Hid; rw [HT1.out, HC1.out]; simp [trEq]
    go_wp2_with fail
    refine (r09same_any T (.mk [] []) C [] _ _ _ _ _ _ w5 (HT.out _ hy5) rd_empty (HCt.out _ hy5) SlP.nil).mono ?_
    rw [HSM.out]
    rintro e w9 ⟨rfl, hb9⟩
    go_wp2_with fail
    go_ret
    exact ⟨rfl, hB5.trans (hb9.mono (by omega))⟩
  go_wp2_with fail
  refine (r09right_any D c _ _ _ w5 (HD.out _ hB5) (HS.out _ hB5) hDz hcz).mono ?_
  rintro e w6 ⟨rfl, hb6⟩
  clear c0 c1 e0 e1 e2 x0 x1 x2
  have hb6' := hid (hb5'.out.trans (hb6.mono hs5))
  obtain ⟨hB6, hy6, hs6, c0, c1, e0, e1, e2, x0, x1, x2⟩ := HX.out _ hb6'.out
  clear hb6
  cases r2 : r9R D c
  · have HBD : Hid ((!(t.right 5) || !caR D c || !keyB key) = true) := by unfold Hid; rw [caR_r9, r2]; simp
    clear r1 r2
    have hk : k = 1 := by rw [HE1.out]; unfold updE; rw [HBD.out]; rfl
    subst hk
    have HSM : Hid ((trEq T (.mk [] []) && decide (C = [])) = true) := by unfold Hid; rw [HT1.out, HC1.out]; simp [trEq]
    go_wp2_with fail
    refine (r09same_any T (.mk [] []) C [] _ _ _ _ _ _ w6 (HT.out _ hy6) rd_empty (HCt.out _ hy6) SlP.nil).mono ?_
    rw [HSM.out]
    rintro e w9 ⟨rfl, hb9⟩
    go_wp2_with fail
    go_ret
    exact ⟨rfl, hB6.trans (hb9.mono (by omega))⟩
  go_wp2_with fail
  refine (r08key_any key w6).mono ?_
  rintro e w7 ⟨rfl, hb7⟩
  clear c0 c1 e0 e1 e2 x0 x1 x2
  have hb7' := hid (hb6'.out.trans (hb7.mono hs6))
  obtain ⟨hB7, hy7, hs7, c0, c1, e0, e1, e2, x0, x1, x2⟩ := HX.out _ hb7'.out
  clear hb7
  cases r3 : keyB key
  · have HBD : Hid ((!(t.right 5) || !caR D c || !keyB key) = true) := by unfold Hid; rw [r3]; simp
    clear r1 r2 r3
    have hk : k = 1 := by rw [HE1.out]; unfold updE; rw [HBD.out]; rfl
    subst hk
    have HSM : Hid ((trEq T (.mk [] []) && decide (C = [])) = true) := by unfold Hid; rw [HT1.out, HC1.out]; simp [trEq]
    go_wp2_with fail
    refine (r09same_any T (.mk [] []) C [] _ _ _ _ _ _ w7 (HT.out _ hy7) rd_empty (HCt.out _ hy7) SlP.nil).mono ?_
    rw [HSM.out]
    rintro e w9 ⟨rfl, hb9⟩
    go_wp2_with fail
    go_ret
    exact ⟨rfl, hB7.trans (hb9.mono (by omega))⟩
  have hDr : D.right 5 = true := by unfold r9R at r2; simp at r2; exact r2.1
  have hOrd := right_ord D 5 hDr
  have HWO : Hid (wrapE D key = 0 ∨ wrapE D key = 10) := wrapE_or hDr r3
  have HWE : Hid (wrapRE D [key] = wrapE D key) := wrapRE_one key hDr
  have HWT : Hid (wrapRT D [key] = wrapT D key) := wrapRT_one key hDr
  have hemp := lvs_empty hOrd
  have hdeep : deepLv (D.lvs []) ≤ 90000 := by
    cases he : D.empty
    · rw [deep_dep hOrd he]; have := right_dep D 5 hDr; omega
    · rw [he, List.isEmpty_iff] at hemp; rw [hemp]; decide
  have HU : Hid (updE t key D c = if !(D.lvs []).isEmpty && decide (24 ≤ t.ks.length) && !(t.ks.any fun y => decide (y.1 = key)) then 4 else wrapE D key) := by
    unfold Hid updE; rw [r1, caR_r9, r2, r3, hemp, ← empB_empty]; rfl
  have hfi : decide ((24 : Int) ≤ (t.ks.length : Int)) = decide (24 ≤ t.ks.length) := by rw [Bool.eq_iff_iff]; simp; omega
  have hkn : t.ks.length ≤ 140737488355328 := by have := ks_sz t; omega
  clear r1 r2 r3 hDr hOrd hemp hdl
  go_wp2_with fail
  refine (r08leaves_any D w7 _ _ (HD.out _ hB7) (by omega)).mono ?_
  rintro e wl ⟨vl, rfl, hl, hbl⟩
  have hsl := hl.sl LfA.mon (by unfold Big; omega)
  obtain ⟨Al, nl, hvl, _⟩ := hsl
  subst hvl
  clear hl
  clear c0 c1 e0 e1 e2 x0 x1 x2
  have hbl' := hid (hb7'.out.trans (hbl.mono hs7))
  obtain ⟨hBl, hyl, hsl, c0, c1, e0, e1, e2, x0, x1, x2⟩ := HX.out _ hbl'.out
  clear hbl
  rcases Nat.eq_zero_or_pos (D.lvs []).length with hz | hz
  · have hem : (D.lvs []).isEmpty = true := by rw [List.isEmpty_iff]; exact List.eq_nil_of_length_eq_zero hz
    have HK : Hid (k = wrapE D key) := by unfold Hid; rw [HE1.out, HU.out, hem]; rfl
    have hz1 : decide ((0 : Int) < ((D.lvs []).length : Int)) = false := by rw [hz]; decide
    have hz2 : decide (0 < (D.lvs []).length) = false := by rw [hz]; decide
    clear hem hz
    go_wp2_with fail
    refine (r08wrap_any D [key] _ _ _ _ (HD.out _ (hBl.alloc (by omega) _)) (SlP.oneB (E := StE) (n := wl.heap.size) (x := key) (cs := [.string key]) ⟨rfl, hkey⟩ rfl _ (by simp) (by simp)) (by omega) (by simp) (by omega)).mono ?_
    rw [HWT.out, HWE.out]
    rintro e w8 ⟨ve8, vk8, rfl, hrd8, hb8⟩
    obtain ⟨A8, n8, A9, n9, rfl, rfl⟩ := rda_shape hrd8
    have hs8' := hb8.size
    simp only [World.size_alloc] at hs8'
    clear c0 c1 e0 e1 e2 x0 x1 x2
    have hb8' := hid (hbl'.out.trans ((((Below.refl wl.heap.size wl).alloc (Nat.le_refl _) _).trans (hb8.mono (show wl.heap.size ≤ _ by rw [World.size_alloc]; omega))).mono hsl))
    obtain ⟨hB8, hy8, hs8, c0, c1, e0, e1, e2, x0, x1, x2⟩ := HX.out _ hb8'.out
    have HW8 : Hid (∀ w', Below w8.heap.size w8 w' → (wrapT D key).rd w' w'.heap.size (.slice A8 (wrapT D key).es.length n8) (.slice A9 (wrapT D key).ks.length n9)) := fun w' hb => rda_rd hrd8 (fun b hb => hb.2) hb
    clear hb8 hrd8
    have hlt8 : w3.heap.size < w8.heap.size := by omega
    have hne8 : w3.heap.size ≠ w8.heap.size := by omega
    have hlt8a : w.heap.size < w8.heap.size := by omega
    have hne8a : w.heap.size ≠ w8.heap.size := by omega
    have hlt8b : w.heap.size + 1 < w8.heap.size := by omega
    have hne8b : w.heap.size + 1 ≠ w8.heap.size := by omega
    have hBA := hid (hB8.alloc (by omega) (.cells #[.slice A8 (wrapT D key).es.length n8, .slice A9 (wrapT D key).ks.length n9] 25))
    have hYA := hid (hy8.alloc (by omega) (.cells #[.slice A8 (wrapT D key).es.length n8, .slice A9 (wrapT D key).ks.length n9] 25))
    have HWA := hid (HW8.out _ ((Below.refl w8.heap.size w8).alloc (Nat.le_refl _) (.cells #[.slice A8 (wrapT D key).es.length n8, .slice A9 (wrapT D key).ks.length n9] 25)))
    rcases HWO.out with hw0 | hw10
    · have HSM : Hid ((trEq T (wrapT D key) && decide (C = c)) = true) := by unfold Hid; rw [HT1.out, HC1.out, HK.out, hw0]; simp [trEq]
      rw [hw0] at HK ⊢
      have hk : k = 0 := HK.out
      clear hw0
      generalize wrapT D key = U at *
      subst hk
      go_wp2_with fail
      refine (r09same_any T U C c _ _ _ _ _ _ _ (HT.out _ hYA.out) HWA.out (HCt.out _ hYA.out) (HS.out _ hBA.out)).mono ?_
      rw [HSM.out]
      rintro e w9 ⟨rfl, hb9⟩
      go_wp2_with fail
      go_ret
      exact ⟨rfl, hBA.out.trans (hb9.mono (by rw [World.size_alloc]; omega))⟩
    · have HSM : Hid ((trEq T (.mk [] []) && decide (C = [])) = true) := by unfold Hid; rw [HT1.out, HC1.out, HK.out, hw10]; simp [trEq]
      rw [hw10] at HK ⊢
      have hk : k = 10 := HK.out
      clear hw10
      generalize wrapT D key = U at *
      subst hk
      go_wp2_with fail
      refine (r09same_any T (.mk [] []) C [] _ _ _ _ _ _ _ (HT.out _ hYA.out) rd_empty (HCt.out _ hYA.out) SlP.nil).mono ?_
      rw [HSM.out]
      rintro e w9 ⟨rfl, hb9⟩
      go_wp2_with fail
      go_ret
      exact ⟨rfl, hBA.out.trans (hb9.mono (by rw [World.size_alloc]; omega))⟩
  · have hem : (D.lvs []).isEmpty = false := by cases hx : D.lvs [] with | nil => rw [hx] at hz; simp at hz | cons _ _ => rfl
    have hz1 : decide ((0 : Int) < ((D.lvs []).length : Int)) = true := by simp; omega
    have hz2 : decide (0 < (D.lvs []).length) = true := by simp; omega
    cases fl : decide (24 ≤ t.ks.length)
    · have HK : Hid (k = wrapE D key) := by unfold Hid; rw [HE1.out, HU.out, hem, fl]; rfl
      rw [fl] at hfi
      clear hem fl
      go_wp2_with fail
      refine (r08wrap_any D [key] _ _ _ _ (HD.out _ (hBl.alloc (by omega) _)) (SlP.oneB (E := StE) (n := wl.heap.size) (x := key) (cs := [.string key]) ⟨rfl, hkey⟩ rfl _ (by simp) (by simp)) (by omega) (by simp) (by omega)).mono ?_
      rw [HWT.out, HWE.out]
      rintro e w8 ⟨ve8, vk8, rfl, hrd8, hb8⟩
      obtain ⟨A8, n8, A9, n9, rfl, rfl⟩ := rda_shape hrd8
      have hs8' := hb8.size
      simp only [World.size_alloc] at hs8'
      clear c0 c1 e0 e1 e2 x0 x1 x2
      have hb8' := hid (hbl'.out.trans ((((Below.refl wl.heap.size wl).alloc (Nat.le_refl _) _).trans (hb8.mono (show wl.heap.size ≤ _ by rw [World.size_alloc]; omega))).mono hsl))
      obtain ⟨hB8, hy8, hs8, c0, c1, e0, e1, e2, x0, x1, x2⟩ := HX.out _ hb8'.out
      have HW8 : Hid (∀ w', Below w8.heap.size w8 w' → (wrapT D key).rd w' w'.heap.size (.slice A8 (wrapT D key).es.length n8) (.slice A9 (wrapT D key).ks.length n9)) := fun w' hb => rda_rd hrd8 (fun b hb => hb.2) hb
      clear hb8 hrd8
      have hlt8 : w3.heap.size < w8.heap.size := by omega
      have hne8 : w3.heap.size ≠ w8.heap.size := by omega
      have hlt8a : w.heap.size < w8.heap.size := by omega
      have hne8a : w.heap.size ≠ w8.heap.size := by omega
      have hlt8b : w.heap.size + 1 < w8.heap.size := by omega
      have hne8b : w.heap.size + 1 ≠ w8.heap.size := by omega
      have hBA := hid (hB8.alloc (by omega) (.cells #[.slice A8 (wrapT D key).es.length n8, .slice A9 (wrapT D key).ks.length n9] 25))
      have hYA := hid (hy8.alloc (by omega) (.cells #[.slice A8 (wrapT D key).es.length n8, .slice A9 (wrapT D key).ks.length n9] 25))
      have HWA := hid (HW8.out _ ((Below.refl w8.heap.size w8).alloc (Nat.le_refl _) (.cells #[.slice A8 (wrapT D key).es.length n8, .slice A9 (wrapT D key).ks.length n9] 25)))
      rcases HWO.out with hw0 | hw10
      · have HSM : Hid ((trEq T (wrapT D key) && decide (C = c)) = true) := by unfold Hid; rw [HT1.out, HC1.out, HK.out, hw0]; simp [trEq]
        rw [hw0] at HK ⊢
        have hk : k = 0 := HK.out
        clear hw0
        generalize wrapT D key = U at *
        subst hk
        go_wp2_with fail
        refine (r09same_any T U C c _ _ _ _ _ _ _ (HT.out _ hYA.out) HWA.out (HCt.out _ hYA.out) (HS.out _ hBA.out)).mono ?_
        rw [HSM.out]
        rintro e w9 ⟨rfl, hb9⟩
        go_wp2_with fail
        go_ret
        exact ⟨rfl, hBA.out.trans (hb9.mono (by rw [World.size_alloc]; omega))⟩
      · have HSM : Hid ((trEq T (.mk [] []) && decide (C = [])) = true) := by unfold Hid; rw [HT1.out, HC1.out, HK.out, hw10]; simp [trEq]
        rw [hw10] at HK ⊢
        have hk : k = 10 := HK.out
        clear hw10
        generalize wrapT D key = U at *
        subst hk
        go_wp2_with fail
        refine (r09same_any T (.mk [] []) C [] _ _ _ _ _ _ _ (HT.out _ hYA.out) rd_empty (HCt.out _ hYA.out) SlP.nil).mono ?_
        rw [HSM.out]
        rintro e w9 ⟨rfl, hb9⟩
        go_wp2_with fail
        go_ret
        exact ⟨rfl, hBA.out.trans (hb9.mono (by rw [World.size_alloc]; omega))⟩
    · rw [fl] at hfi
      go_wp2_with fail
      refine (r10kid_any t key wl _ _ (HC.out _ hBl)).mono ?_
      rintro e wk ⟨rfl, hbk⟩
      clear c0 c1 e0 e1 e2 x0 x1 x2
      have hbk' := hid (hbl'.out.trans (hbk.mono hsl))
      obtain ⟨hBk, hyk, hsk, c0, c1, e0, e1, e2, x0, x1, x2⟩ := HX.out _ hbk'.out
      clear hbk
      cases an : (t.ks.any fun y => decide (y.1 = key))
      · have hk : k = 4 := by rw [HE1.out, HU.out, hem, fl, an]; rfl
        subst hk
        have HSM : Hid ((trEq T (.mk [] []) && decide (C = [])) = true) := by unfold Hid; rw [HT1.out, HC1.out]; simp [trEq]
        clear hem fl an
        go_wp2_with fail
        refine (r09same_any T (.mk [] []) C [] _ _ _ _ _ _ wk (HT.out _ hyk) rd_empty (HCt.out _ hyk) SlP.nil).mono ?_
        rw [HSM.out]
        rintro e w9 ⟨rfl, hb9⟩
        go_wp2_with fail
        go_ret
        exact ⟨rfl, hBk.trans (hb9.mono (by omega))⟩
      · have HK : Hid (k = wrapE D key) := by unfold Hid; rw [HE1.out, HU.out, hem, fl, an]; rfl
        clear hem fl an
        go_wp2_with fail
        refine (r08wrap_any D [key] _ _ _ _ (HD.out _ (hBk.alloc (by omega) _)) (SlP.oneB (E := StE) (n := wk.heap.size) (x := key) (cs := [.string key]) ⟨rfl, hkey⟩ rfl _ (by simp) (by simp)) (by omega) (by simp) (by omega)).mono ?_
        rw [HWT.out, HWE.out]
        rintro e w8 ⟨ve8, vk8, rfl, hrd8, hb8⟩
        obtain ⟨A8, n8, A9, n9, rfl, rfl⟩ := rda_shape hrd8
        have hs8' := hb8.size
        simp only [World.size_alloc] at hs8'
        clear c0 c1 e0 e1 e2 x0 x1 x2
        have hb8' := hid (hbk'.out.trans ((((Below.refl wk.heap.size wk).alloc (Nat.le_refl _) _).trans (hb8.mono (show wk.heap.size ≤ _ by rw [World.size_alloc]; omega))).mono hsk))
        obtain ⟨hB8, hy8, hs8, c0, c1, e0, e1, e2, x0, x1, x2⟩ := HX.out _ hb8'.out
        have HW8 : Hid (∀ w', Below w8.heap.size w8 w' → (wrapT D key).rd w' w'.heap.size (.slice A8 (wrapT D key).es.length n8) (.slice A9 (wrapT D key).ks.length n9)) := fun w' hb => rda_rd hrd8 (fun b hb => hb.2) hb
        clear hb8 hrd8
        have hlt8 : w3.heap.size < w8.heap.size := by omega
        have hne8 : w3.heap.size ≠ w8.heap.size := by omega
        have hlt8a : w.heap.size < w8.heap.size := by omega
        have hne8a : w.heap.size ≠ w8.heap.size := by omega
        have hlt8b : w.heap.size + 1 < w8.heap.size := by omega
        have hne8b : w.heap.size + 1 ≠ w8.heap.size := by omega
        have hBA := hid (hB8.alloc (by omega) (.cells #[.slice A8 (wrapT D key).es.length n8, .slice A9 (wrapT D key).ks.length n9] 25))
        have hYA := hid (hy8.alloc (by omega) (.cells #[.slice A8 (wrapT D key).es.length n8, .slice A9 (wrapT D key).ks.length n9] 25))
        have HWA := hid (HW8.out _ ((Below.refl w8.heap.size w8).alloc (Nat.le_refl _) (.cells #[.slice A8 (wrapT D key).es.length n8, .slice A9 (wrapT D key).ks.length n9] 25)))
        rcases HWO.out with hw0 | hw10
        · have HSM : Hid ((trEq T (wrapT D key) && decide (C = c)) = true) := by unfold Hid; rw [HT1.out, HC1.out, HK.out, hw0]; simp [trEq]
          rw [hw0] at HK ⊢
          have hk : k = 0 := HK.out
          clear hw0
          generalize wrapT D key = U at *
          subst hk
          go_wp2_with fail
          refine (r09same_any T U C c _ _ _ _ _ _ _ (HT.out _ hYA.out) HWA.out (HCt.out _ hYA.out) (HS.out _ hBA.out)).mono ?_
          rw [HSM.out]
          rintro e w9 ⟨rfl, hb9⟩
          go_wp2_with fail
          go_ret
          exact ⟨rfl, hBA.out.trans (hb9.mono (by rw [World.size_alloc]; omega))⟩
        · have HSM : Hid ((trEq T (.mk [] []) && decide (C = [])) = true) := by unfold Hid; rw [HT1.out, HC1.out, HK.out, hw10]; simp [trEq]
          rw [hw10] at HK ⊢
          have hk : k = 10 := HK.out
          clear hw10
          generalize wrapT D key = U at *
          subst hk
          go_wp2_with fail
          refine (r09same_any T (.mk [] []) C [] _ _ _ _ _ _ _ (HT.out _ hYA.out) rd_empty (HCt.out _ hYA.out) SlP.nil).mono ?_
          rw [HSM.out]
          rintro e w9 ⟨rfl, hb9⟩
          go_wp2_with fail
          go_ret
          exact ⟨rfl, hBA.out.trans (hb9.mono (by rw [World.size_alloc]; omega))⟩
end Go.Proofs.YtdcmjmcipgadlaaGreat

namespace Go.Proofs.YtdcmjmcipgadlaaGreat
open Go.ChangeShapes Go.WideShapes Go.ChangeAt Go.RowKit
set_option maxRecDepth 100000

theorem okCausal : Tryz.prog.readableRec 29 = true ∧ 29 < Tryz.prog.types.size := ⟨by kernel_rfl, of_decide_eq_true (by kernel_rfl)⟩
theorem cellsSpan : Tryz.prog.cellsOf 79 = 3 := by kernel_rfl
theorem cellsCtx : Tryz.prog.cellsOf 27 = 1 := by kernel_rfl
theorem cellsCausal : Tryz.prog.cellsOf 29 = 3 := by kernel_rfl
theorem bytesSpan : Tryz.prog.bytesOf 79 = 24 := by kernel_rfl
section
variable {H : Type} {enc : TypeId × Value → H} {w : World}
theorem span_open {fuel : Nat} {cs : List Value} {x : DataW H × List MemPlace} (h : DataW.trod enc Tryz.prog w 0 (fun _ => true) true fuel 79 cs = some x) : ∃ d : Sp, SpE d cs := by
  obtain ⟨xs, n, rfl, rfl, hl, hx, hf⟩ := DataW.trod_struct Tryz.underlying79 h
  rw [cellsSpan] at hl
  match cs, hl with
  | [c0, c1, c2], _ =>
    match xs, hx with
    | [y0, y1, y2], _ =>
      have f0 : DataW.trod enc Tryz.prog w 0 (fun _ => true) true n 3 (([c0, c1, c2].drop 0).take (Tryz.prog.cellsOf 3)) = some y0 := hf 0 _ rfl
      rw [cellsOne.2.1] at f0
      have f1 : DataW.trod enc Tryz.prog w 0 (fun _ => true) true n 2 (([c0, c1, c2].drop 1).take (Tryz.prog.cellsOf 2)) = some y1 := hf 1 _ rfl
      rw [cellsOne.2.2.1] at f1
      have f2 : DataW.trod enc Tryz.prog w 0 (fun _ => true) true n 2 (([c0, c1, c2].drop 2).take (Tryz.prog.cellsOf 2)) = some y2 := hf 2 _ rfl
      rw [cellsOne.2.2.1] at f2
      obtain ⟨a, e0, _, w0⟩ := DataW.trod_int Tryz.underlying3 (show DataW.trod enc Tryz.prog w 0 (fun _ => true) true n 3 [c0] = some y0 from f0)
      obtain ⟨b, e1, _, w1⟩ := DataW.trod_int Tryz.underlying2 (show DataW.trod enc Tryz.prog w 0 (fun _ => true) true n 2 [c1] = some y1 from f1)
      obtain ⟨c, e2, _, w2⟩ := DataW.trod_int Tryz.underlying2 (show DataW.trod enc Tryz.prog w 0 (fun _ => true) true n 2 [c2] = some y2 from f2)
      simp at e0 e1 e2
      subst e0; subst e1; subst e2
      exact ⟨⟨a, b, c⟩, rfl, wf_i64 w0, wf_i64 w1, wf_i64 w2⟩
theorem ca_open {fuel : Nat} {cs : List Value} {x : DataW H × List MemPlace} (h : DataW.trod enc Tryz.prog w 0 (fun _ => true) true fuel 29 cs = some x) (hw : Wt Tryz.prog 29 x.1) :
    ∃ t c ve vk vc, cs = [ve, vk, vc] ∧ Tr.rd w w.heap.size t ve vk ∧ SlP w w.heap.size 3 SpE vc c := by
  obtain ⟨xs, n, rfl, rfl, hl, hx, hf⟩ := DataW.trod_struct Tryz.underlying29 h
  rw [cellsCausal] at hl
  match cs, hl with
  | [c0, c1, c2], _ =>
    match xs, hx with
    | [y0, y1], _ =>
      have f0 : DataW.trod enc Tryz.prog w 0 (fun _ => true) true n 25 (([c0, c1, c2].drop 0).take (Tryz.prog.cellsOf 25)) = some y0 := hf 0 _ rfl
      rw [cellsTree] at f0
      have f1 : DataW.trod enc Tryz.prog w 0 (fun _ => true) true n 27 (([c0, c1, c2].drop 2).take (Tryz.prog.cellsOf 27)) = some y1 := hf 1 _ rfl
      rw [cellsCtx] at f1
      obtain ⟨t, ve, vk, e, ht⟩ := tree_open n _ _ (show DataW.trod enc Tryz.prog w 0 (fun _ => true) true n 25 [c0, c1] = some y0 from f0) (Wt.field Tryz.underlying29 hw (i := 0) rfl rfl)
      obtain ⟨v1, c, e1, h1⟩ := slc_open (E := SpE) Tryz.underlying27 cellsSpan (by decide) bytesSpan (by decide) (show DataW.trod enc Tryz.prog w 0 (fun _ => true) true n 27 [c2] = some y1 from f1) (Wt.field Tryz.underlying29 hw (i := 1) rfl rfl)
        (fun m cs y _ hy hwy => span_open hy)
      simp at e e1
      obtain ⟨rfl, rfl⟩ := e
      subst e1
      exact ⟨t, c, c0, c1, c2, rfl, ht, h1⟩
end
theorem ca_arg {H : Type} {enc : TypeId × Value → H} {W : World} {base : Nat} {v : Value} {d : DataW H} {p : List MemPlace} (hv : Value.okWide Tryz.prog W .any base 29 v) (h : DataW.Trod enc Tryz.prog W 0 (fun _ => true) true 29 v d p) (hw : Wt Tryz.prog 29 d) :
    ∃ t c ve vk vc, v = .agg #[ve, vk, vc] ∧ Tr.rd W W.heap.size t ve vk ∧ SlP W W.heap.size 3 SpE vc c := by
  obtain ⟨cs, rfl, hs⟩ := okWide_struct Tryz.underlying29 hv
  obtain ⟨fuel, hf⟩ := h
  obtain ⟨t, c, ve, vk, vc, e, ht, hc⟩ := ca_open hf hw
  refine ⟨t, c, ve, vk, vc, ?_, ht, hc⟩
  simp [Value.cells] at e
  obtain ⟨l⟩ := cs
  simp at e
  rw [e]
end Go.Proofs.YtdcmjmcipgadlaaGreat
