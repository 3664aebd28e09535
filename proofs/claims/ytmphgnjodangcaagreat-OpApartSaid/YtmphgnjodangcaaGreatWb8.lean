/- What the laws need, part 8: tributaryref15: kinds, paths, and which changes may be. No condition. tributaryref15.Op: why a change can't be. No condition. tributaryref10.Own. No condition but that there are not too many entries. Plain law: the context of one dot more. No condition. context.Same. No condition but that there are not too many. causal.Same, causal.Leq, tributarylaw09.join. Condition: not too big. The plain law of CounterAll. What is read is what the changes tell: plain. tributaryref15.Read. Condition: not too big. tributaryref08.Once, tributaryref10.With. No condition but that there are not too many. op.Apply. Condition: not too big. tributaryref15.end, full, sees. Condition: a right tree, not too big. tributaryref15.Apply. Condition: not too big. The data that a law is given, read as the plain types: dots, entries, trees. No condition. The frame of a law: its answer is true, and its arguments read as before. No condition. A law's argument that is a text. No condition. A law's argument that is what is known. No condition. Arguments that are lists of texts, or of what is known. No condition. -/
import Derived.Deep.CutBlock
import Derived.Deep.Slices
import Derived.ProofKit
import Derived.SizedLaws
import Derived.Test.YtmphgnjodangcaaGreatProg
import Derived.Test.YtmphgnjodangcaaGreatRows
import Derived.Test.YtmphgnjodangcaaGreatWb7
namespace Go.Proofs.YtmphgnjodangcaaGreat
open Go.RowKit
set_option maxRecDepth 100000

/-- The letters that were looked at aren't the key's first one. -/
def NoKd (x : Int) (n : Nat) : Prop := (0 < n → (x == 102) = false) ∧ (1 < n → (x == 115) = false) ∧ (2 < n → (x == 99) = false) ∧ (3 < n → (x == 114) = false) ∧ (4 < n → (x == 109) = false)
theorem let0 : ((({ data := #[102, 115, 99, 114, 109] } : ByteArray)[0]'(by decide)).toNat : Int) = 102 := rfl
theorem let1 : ((({ data := #[102, 115, 99, 114, 109] } : ByteArray)[1]'(by decide)).toNat : Int) = 115 := rfl
theorem let2 : ((({ data := #[102, 115, 99, 114, 109] } : ByteArray)[2]'(by decide)).toNat : Int) = 99 := rfl
theorem let3 : ((({ data := #[102, 115, 99, 114, 109] } : ByteArray)[3]'(by decide)).toNat : Int) = 114 := rfl
theorem let4 : ((({ data := #[102, 115, 99, 114, 109] } : ByteArray)[4]'(by decide)).toNat : Int) = 109 := rfl
set_option maxHeartbeats 2000000 in
theorem r15kind_any (k : ByteArray) (w : World) (hk : k.size ≤ Big) :
    Calls Tryz.prog 75 #[.string k] w fun e w' => e = .returned (.int .i64 (kindB k)) ∧ Below w.heap.size w w' := by
  unfold Big at hk
  by_cases h0 : 0 < k.size
  · have HK := hid (kindB_get h0)
    go_enter Tryz.func75, Tryz.ntmps75
    go_wp2_with fail
    go_loopw [7] (fun i wr => ∃ n : Nat, n ≤ 5 ∧ i = .int .i64 n ∧ Hid (NoKd (k[0].toNat : Int) n) ∧ Below w.heap.size w wr) (fun i _ => 5 - (intOf i).toNat)
    case atStart => exact ⟨0, by omega, rfl, ⟨fun h => by omega, fun h => by omega, fun h => by omega, fun h => by omega, fun h => by omega⟩, Below.refl _ _⟩
    case round =>
      obtain ⟨n, hn, rfl, hno, hb⟩ := hrel
      rcases (show n = 0 ∨ n = 1 ∨ n = 2 ∨ n = 3 ∨ n = 4 ∨ n = 5 by omega) with rfl | rfl | rfl | rfl | rfl | rfl
      · skip
        go_upto_region 5 with (fail)
        refine wp_region_far wr.heap.size (by kernel_rfl) (by kernel_rfl) ?_
        repeat (go_big_quiet_step (fail))
        refine wpQuiet_nil ?_
        intro wq hbq
        have hB := hb.trans (hbq.mono hb.size)
        clear hbq
        simp only [let0]
        go_wp2_with fail
        all_goals first
          | (refine ⟨⟨1, by omega, by go_num, ⟨fun _ => by assumption, fun h => (by omega), fun h => (by omega), fun h => (by omega), fun h => (by omega)⟩, hB⟩, ?_⟩; simp [intOf]; done)
          | (go_ret; exact ⟨ret_int (by rw [HK.out]; simp_all), hB⟩)
          | trace_state
      · have k0 := hno.out.1 (by omega)
        have HN0 := hid k0
        go_upto_region 5 with (fail)
        refine wp_region_far wr.heap.size (by kernel_rfl) (by kernel_rfl) ?_
        repeat (go_big_quiet_step (fail))
        refine wpQuiet_nil ?_
        intro wq hbq
        have hB := hb.trans (hbq.mono hb.size)
        clear hbq
        simp only [let1]
        go_wp2_with fail
        all_goals first
          | (refine ⟨⟨2, by omega, by go_num, ⟨fun _ => HN0.out, fun _ => by assumption, fun h => (by omega), fun h => (by omega), fun h => (by omega)⟩, hB⟩, ?_⟩; simp [intOf]; done)
          | (go_ret; exact ⟨ret_int (by rw [HK.out]; simp_all), hB⟩)
          | trace_state
      · have k0 := hno.out.1 (by omega)
        have HN0 := hid k0
        have k1 := hno.out.2.1 (by omega)
        have HN1 := hid k1
        go_upto_region 5 with (fail)
        refine wp_region_far wr.heap.size (by kernel_rfl) (by kernel_rfl) ?_
        repeat (go_big_quiet_step (fail))
        refine wpQuiet_nil ?_
        intro wq hbq
        have hB := hb.trans (hbq.mono hb.size)
        clear hbq
        simp only [let2]
        go_wp2_with fail
        all_goals first
          | (refine ⟨⟨3, by omega, by go_num, ⟨fun _ => HN0.out, fun _ => HN1.out, fun _ => by assumption, fun h => (by omega), fun h => (by omega)⟩, hB⟩, ?_⟩; simp [intOf]; done)
          | (go_ret; exact ⟨ret_int (by rw [HK.out]; simp_all), hB⟩)
          | trace_state
      · have k0 := hno.out.1 (by omega)
        have HN0 := hid k0
        have k1 := hno.out.2.1 (by omega)
        have HN1 := hid k1
        have k2 := hno.out.2.2.1 (by omega)
        have HN2 := hid k2
        go_upto_region 5 with (fail)
        refine wp_region_far wr.heap.size (by kernel_rfl) (by kernel_rfl) ?_
        repeat (go_big_quiet_step (fail))
        refine wpQuiet_nil ?_
        intro wq hbq
        have hB := hb.trans (hbq.mono hb.size)
        clear hbq
        simp only [let3]
        go_wp2_with fail
        all_goals first
          | (refine ⟨⟨4, by omega, by go_num, ⟨fun _ => HN0.out, fun _ => HN1.out, fun _ => HN2.out, fun _ => by assumption, fun h => (by omega)⟩, hB⟩, ?_⟩; simp [intOf]; done)
          | (go_ret; exact ⟨ret_int (by rw [HK.out]; simp_all), hB⟩)
          | trace_state
      · have k0 := hno.out.1 (by omega)
        have HN0 := hid k0
        have k1 := hno.out.2.1 (by omega)
        have HN1 := hid k1
        have k2 := hno.out.2.2.1 (by omega)
        have HN2 := hid k2
        have k3 := hno.out.2.2.2.1 (by omega)
        have HN3 := hid k3
        go_upto_region 5 with (fail)
        refine wp_region_far wr.heap.size (by kernel_rfl) (by kernel_rfl) ?_
        repeat (go_big_quiet_step (fail))
        refine wpQuiet_nil ?_
        intro wq hbq
        have hB := hb.trans (hbq.mono hb.size)
        clear hbq
        simp only [let4]
        go_wp2_with fail
        all_goals first
          | (refine ⟨⟨5, by omega, by go_num, ⟨fun _ => HN0.out, fun _ => HN1.out, fun _ => HN2.out, fun _ => HN3.out, fun _ => by assumption⟩, hB⟩, ?_⟩; simp [intOf]; done)
          | (go_ret; exact ⟨ret_int (by rw [HK.out]; simp_all), hB⟩)
          | trace_state
      · have k0 := hno.out.1 (by omega)
        have HN0 := hid k0
        clear k0
        have k1 := hno.out.2.1 (by omega)
        have HN1 := hid k1
        clear k1
        have k2 := hno.out.2.2.1 (by omega)
        have HN2 := hid k2
        clear k2
        have k3 := hno.out.2.2.2.1 (by omega)
        have HN3 := hid k3
        clear k3
        have k4 := hno.out.2.2.2.2 (by omega)
        have HN4 := hid k4
        clear k4
        go_wp2_with fail
        go_ret
        exact ⟨ret_int (by rw [HK.out, HN0.out, HN1.out, HN2.out, HN3.out, HN4.out]; rfl), hb⟩
  · rw [kindB_no h0]
    have h0' : k.size = 0 := by omega
    go_enter Tryz.func75, Tryz.ntmps75
    go_wp2_with fail
    go_loopw [7] (fun i wr => ∃ n : Nat, n ≤ 5 ∧ i = .int .i64 n ∧ Below w.heap.size w wr) (fun i _ => 5 - (intOf i).toNat)
    case atStart => exact ⟨0, by omega, rfl, Below.refl _ _⟩
    case round =>
      obtain ⟨n, hn, rfl, hb⟩ := hrel
      by_cases h5 : n < 5
      · go_upto_region 5 with (fail)
        refine wp_region_far wr.heap.size (by kernel_rfl) (by kernel_rfl) ?_
        repeat (go_big_quiet_step (fail))
        refine wpQuiet_nil ?_
        intro wq hbq
        have hB := hb.trans (hbq.mono hb.size)
        clear hbq
        go_wp2_with fail
        all_goals (refine ⟨⟨n + 1, by omega, by go_num, hB⟩, ?_⟩; simp [intOf]; omega)
      · obtain rfl : n = 5 := by omega
        go_wp2_with fail
        go_ret
        exact ⟨rfl, hb⟩
theorem any_no {α : Type} {f : α → Bool} {l : List α} (h : ∀ (j : Nat) x, j < l.length → l[j]? = some x → f x = false) : l.any f = false := by
  rw [List.any_eq_false]
  intro x hx
  obtain ⟨j, hj⟩ := List.getElem?_of_mem hx
  rw [h j x (List.getElem?_eq_some_iff.1 hj).1 hj]; simp
theorem any_yes {α : Type} {f : α → Bool} {l : List α} {j : Nat} {x : α} (h : l[j]? = some x) (hf : f x = true) : l.any f = true := List.any_eq_true.2 ⟨x, List.mem_of_getElem? h, hf⟩
set_option maxHeartbeats 4000000 in
theorem r15path_any (p : List ByteArray) (vp : Value) (w : World) (h : SlP w w.heap.size 1 StE vp p) :
    Calls Tryz.prog 83 #[vp] w fun e w' => e = .returned (.int .i64 (pathI p)) ∧ Below w.heap.size w w' := by
  obtain ⟨A, c, rfl, c1, c2, c3⟩ := h
  unfold Big at c2
  go_enter Tryz.func83, Tryz.ntmps83
  by_cases h1 : p.length = 0
  · have hP : pathI p = 1 := by unfold pathI; rw [if_pos (.inl (by omega))]
    rw [hP]
    clear hP
    go_wp2_with fail
    go_ret
    exact ⟨rfl, Below.refl _ _⟩
  by_cases h3 : 3 < p.length
  · have hP : pathI p = 1 := by unfold pathI; rw [if_pos (.inr (.inl h3))]
    rw [hP]
    clear hP
    have h1' : ((p.length : Int) == 0) = false := by simpa using h1
    go_wp2_with fail
    go_ret
    exact ⟨rfl, Below.refl _ _⟩
  have h1' : ((p.length : Int) == 0) = false := by simpa using h1
  have h3' : decide ((3 : Int) < p.length) = false := by simp; omega
  go_wp2_with fail
  go_loopw [15] (fun i wr => ∃ k : Nat, k ≤ p.length ∧ i = .int .i64 k ∧ Hid (∀ (j : Nat) x, j < k → p[j]? = some x → badKey x = false) ∧ Below w.heap.size w wr) (fun i _ => p.length - (intOf i).toNat)
  case atStart => exact ⟨0, Nat.zero_le _, rfl, fun j x hj => absurd hj (Nat.not_lt_zero _), Below.refl _ _⟩
  case round =>
    obtain ⟨k, hk, rfl, hno, hb⟩ := hrel
    by_cases hlt : k < p.length
    · obtain ⟨x, hx⟩ : ∃ x, p[k]? = some x := ⟨_, List.getElem?_eq_getElem hlt⟩
      obtain ⟨b, off, rfl, hbB, hc⟩ := c3 (by rintro rfl; simp at hlt)
      obtain ⟨cs, ⟨rfl, hok⟩, _, hu⟩ := hc k _ hx
      have e0 : wr.cell? ⟨b, off + k, none⟩ = some (.string x) := (hb.cell hbB).trans (by simpa using hu 0 _ rfl)
      have HX := hid hx
      have HOK := hid hok
      unfold Big at hok
      clear hu hc hx
      by_cases hl : 30 < x.size
      · have HB : Hid (badKey x = true) := by unfold Hid badKey; simp [hl]
        go_wp2_with fail
        go_ret
        exact ⟨ret_int (by unfold pathI; rw [if_pos (.inr (.inr (any_yes HX.out HB.out)))]), hb⟩
      · go_wp2_with fail
        refine (r15kind_any x _ HOK.out).mono ?_
        by_cases hk0 : kindB x = 0
        · have HB : Hid (badKey x = true) := by unfold Hid badKey; simp [hk0]
          rw [hk0]
          rintro e w1 ⟨rfl, hb1⟩
          have hB := hb.trans (hb1.mono hb.size)
          clear hk0
          go_wp2_with fail
          go_ret
          exact ⟨ret_int (by unfold pathI; rw [if_pos (.inr (.inr (any_yes HX.out HB.out)))]), hB⟩
        · have HB : Hid (badKey x = false) := by unfold Hid badKey; simp [hk0]; omega
          have hkz : (kindB x == 0) = false := by simpa using hk0
          rintro e w1 ⟨rfl, hb1⟩
          have hB := hb.trans (hb1.mono hb.size)
          clear hk0
          go_wp2_with fail
          go_roundw
          case rel =>
            refine ⟨k + 1, by omega, by go_num, fun j y hj hy => ?_, hB⟩
            rcases (show j < k ∨ j = k by omega) with h | rfl
            · exact hno.out j y h hy
            · have := HX.out; rw [hy] at this; cases this; exact HB.out
          case measure => simp [intOf]; omega
    · obtain rfl : k = p.length := by omega
      have HN : Hid (p.any badKey = false) := any_no hno.out
      have HPI : Hid (pathI p = if p.dropLast.any noMap then 6 else 0) := by unfold Hid pathI; rw [if_neg (by rintro (h | h | h) <;> first | omega | (rw [HN.out] at h; cases h))]
      obtain ⟨wz, hwz⟩ : ∃ z, z = wr := ⟨_, rfl⟩
      subst hwz
      go_wp2_with fail
      go_loopw [35] (fun i wr => ∃ k : Nat, k ≤ p.length ∧ i = .int .i64 k ∧ Hid (∀ (j : Nat) x, j < k → p.dropLast[j]? = some x → noMap x = false) ∧ Below w.heap.size w wr) (fun i _ => p.length - (intOf i).toNat)
      case atStart => exact ⟨0, Nat.zero_le _, rfl, fun j x hj => absurd hj (Nat.not_lt_zero _), hb⟩
      case round =>
        obtain ⟨k, hk, rfl, hno2, hb⟩ := hrel
        by_cases hlt : k < p.length
        · obtain ⟨x, hx⟩ : ∃ x, p[k]? = some x := ⟨_, List.getElem?_eq_getElem hlt⟩
          obtain ⟨b, off, rfl, hbB, hc⟩ := c3 (by rintro rfl; simp at hlt)
          obtain ⟨cs, ⟨rfl, hok⟩, _, hu⟩ := hc k _ hx
          have e0 : wr.cell? ⟨b, off + k, none⟩ = some (.string x) := (hb.cell hbB).trans (by simpa using hu 0 _ rfl)
          have HX := hid hx
          have HOK := hid hok
          clear hu hc hx hok
          by_cases hl : k + 1 < p.length
          · have HD : Hid (p.dropLast[k]? = some x) := by unfold Hid; rw [List.dropLast_eq_take, List.getElem?_take, if_pos (by omega)]; exact HX.out
            have hl' : (k : Int) < (p.length : Int) - 1 := by omega
            go_wp2_with fail
            refine (r15kind_any x _ HOK.out).mono ?_
            by_cases hk5 : kindB x = 5
            · have HB : Hid (noMap x = false) := by unfold Hid noMap; simp [hk5]
              rw [hk5]
              rintro e w1 ⟨rfl, hb1⟩
              have hB := hb.trans (hb1.mono hb.size)
              clear hk5
              go_wp2_with fail
              go_roundw
              case rel =>
                refine ⟨k + 1, by omega, by go_num, fun j y hj hy => ?_, hB⟩
                rcases (show j < k ∨ j = k by omega) with h | rfl
                · exact hno2.out j y h hy
                · have := HD.out; rw [hy] at this; cases this; exact HB.out
              case measure => simp [intOf]; omega
            · have HB : Hid (noMap x = true) := by unfold Hid noMap; simp [hk5]
              have hkz : (kindB x == 5) = false := by simpa using hk5
              rintro e w1 ⟨rfl, hb1⟩
              have hB := hb.trans (hb1.mono hb.size)
              clear hk5
              go_wp2_with fail
              go_ret
              exact ⟨ret_int (by rw [HPI.out, any_yes HD.out HB.out]; rfl), hB⟩
          · have hl' : ¬ (k : Int) < (p.length : Int) - 1 := by omega
            go_wp2_with fail
            go_roundw
            case rel =>
              refine ⟨k + 1, by omega, by go_num, fun j y hj hy => ?_, hb⟩
              have hjl := (List.getElem?_eq_some_iff.1 hy).1
              rw [List.length_dropLast] at hjl
              exact hno2.out j y (by omega) hy
            case measure => simp [intOf]; omega
        · obtain rfl : k = p.length := by omega
          have HN2 : Hid (p.dropLast.any noMap = false) := any_no fun j x hj hx => hno2.out j x (by rw [List.length_dropLast] at hj; omega) hx
          go_wp2_with fail
          go_ret
          exact ⟨ret_int (by rw [HPI.out, HN2.out]; rfl), hb⟩
end Go.Proofs.YtmphgnjodangcaaGreat

namespace Go.Proofs.YtmphgnjodangcaaGreat
open Go.RowKit
set_option maxRecDepth 100000

set_option maxHeartbeats 8000000 in
theorem r15op_any (o : Opr) (vp : Value) (w : World) (h : SlP w w.heap.size 1 StE vp o.path) (ho : o.Ok) :
    Calls Tryz.prog 85 #[.agg #[vp, .int .i64 o.act, .string o.s, .int .i64 o.n]] w fun e w' => e = .returned (.int .i64 (opI o)) ∧ Below w.heap.size w w' := by
  have HC : Hid (∀ w', Below w.heap.size w w' → SlP w' w'.heap.size 1 StE vp o.path) := fun w' hb => h.imp hb hb.size fun _ _ _ h => h
  obtain ⟨A, c, rfl, c1, c2, c3⟩ := h
  have hs := ho.s
  unfold Big at c2 hs
  obtain ⟨path, act, s, n⟩ := o
  simp only at HC c1 c2 c3 hs ⊢
  have HX : Hid (∀ W, Below (w.heap.size + 1) (w.alloc (.cells #[.slice A path.length c, .int .i64 act, .string s, .int .i64 n] 80)) W → (Below w.heap.size w W ∧ SlP W W.heap.size 1 StE (.slice A path.length c) path ∧ W.cell? ⟨w.heap.size, 0, none⟩ = some (.slice A path.length c) ∧ W.cell? ⟨w.heap.size, 1, none⟩ = some (.int .i64 act) ∧ W.cell? ⟨w.heap.size, 2, none⟩ = some (.string s) ∧ W.cell? ⟨w.heap.size, 3, none⟩ = some (.int .i64 n))) := fun W hW => by
    have g0 : W.heap[w.heap.size]? = some (.cells #[.slice A path.length c, .int .i64 act, .string s, .int .i64 n] 80 (0, 0)) := (hW.block _ (by omega)).trans (heap_new rfl)
    have hB : Below w.heap.size w W := ((Below.refl _ w).alloc (Nat.le_refl _) _).trans (hW.mono (by omega))
    exact ⟨hB, HC.out _ hB, cell_cells (i := 0) g0, cell_cells (i := 1) g0, cell_cells (i := 2) g0, cell_cells (i := 3) g0⟩
  go_enter Tryz.func85, Tryz.ntmps85
  go_wp2_with fail
  obtain ⟨hB, hp, q0, q1, q2, q3⟩ := HX.out _ (Below.refl _ _)
  refine (r15path_any path _ _ hp).mono ?_
  rintro e w1 ⟨rfl, hb1⟩
  have HB1 := hid (hb1.mono (show w.heap.size + 1 ≤ _ by simp))
  clear hB hp q0 q1 q2 q3 hb1
  obtain ⟨hB, hp, q0, q1, q2, q3⟩ := HX.out _ HB1.out
  by_cases hpz : pathI path = 0
  case neg =>
    have hO : Hid (opI ⟨path, act, s, n⟩ = pathI path) := by unfold Hid opI; simp only; rw [if_pos hpz]
    have hne : (pathI path == 0) = false := by simpa using hpz
    clear hpz
    go_wp2_with fail
    go_ret
    exact ⟨ret_int hO.out.symm, hB⟩
  have hpl := (path_ok hpz).1
  have hpu := (path_ok hpz).2.1
  have HPZ := hid hpz
  rw [hpz]
  clear hpz
  obtain ⟨bq, offq, hAq, hbq, hcq⟩ := c3 (by rintro rfl; simp at hpl)
  subst hAq
  obtain ⟨cs, ⟨rfl, hok⟩, _, hu⟩ := hcq (path.length - 1) _ (last_at hpl)
  have e0 := (hB.cell (p := ⟨bq, offq + (path.length - 1), none⟩) hbq).trans (by simpa using hu 0 _ rfl)
  have HOK := hid hok
  have hbq1 : bq < w1.heap.size := by have := hB.size; omega
  have hl1 : w.heap.size < w1.heap.size := by have := HB1.out.size; simp at this; omega
  clear hu hcq c3 hok
  go_upto_region 4 with (fail)
  have HQK := hid (fun (w2 : World) (_ : Below w1.heap.size w1 w2) => r15kind_any (lastK path) w2 HOK.out)
  have HQA := hid (fun (w2 : World) (_ : Below w1.heap.size w1 w2) => act15_any act (kindB (lastK path)) w2)
  have f0 := far_cell (B := w1.heap.size) q0 (by simpa using hl1)
  have f1 := far_cell (B := w1.heap.size) q1 (by simpa using hl1)
  have f2 := far_cell (B := w1.heap.size) e0 (by simpa using hbq1)
  refine wp_region_far w1.heap.size (by kernel_rfl) (by kernel_rfl) ?_
  repeat (go_big_quiet_step (first | (go_at_call 75; with_reducible exact Calls.far_all (Nat.le_refl _) HQK.out) | (go_at_call 158; with_reducible exact Calls.far_all (Nat.le_refl _) HQA.out)))
  refine wpQuiet_nil ?_
  intro w2 hb2
  have HB3 := hid (HB1.out.trans (hb2.mono (by omega)))
  clear f0 f1 f2 hB hp q0 q1 q2 q3 hb2 e0 HQK HQA
  obtain ⟨hB, hp, q0, q1, q2, q3⟩ := HX.out _ HB3.out
  cases ha : actB act (kindB (lastK path))
  · have HO : Hid (opI ⟨path, act, s, n⟩ = 6) := by unfold Hid opI; simp only; rw [if_neg (by rw [HPZ.out]; simp), if_pos (by rw [ha]; rfl)]
    clear ha
    go_wp2_with fail
    go_ret
    exact ⟨ret_int HO.out.symm, hB⟩
  have HA' := hid ha
  have hac : act = 1 ∨ act = 2 ∨ act = 3 ∨ act = 4 ∨ act = 5 ∨ act = 6 ∨ act = 7 := by
    unfold actB at ha
    split at ha
    · omega
    · split at ha
      · omega
      · split at ha
        · omega
        · split at ha
          · omega
          · have := of_decide_eq_true ha; omega
  clear ha
  rcases hac with rfl | rfl | rfl | rfl | rfl | rfl | rfl
  · have HA := HA'
    have HE : Hid (∀ (s : ByteArray) (n : Int), opI ⟨path, 1, s, n⟩ = if s.size = 0 ∧ n = 0 then 0 else 1) := by
      intro s n
      rw [chk_err HPZ.out HA.out]
      unfold opTxt opNum keyB
      simp
    go_wp2_with fail
    all_goals (go_ret; refine ⟨ret_int ?_, hB⟩; rw [HE.out])
    all_goals (try simp only [Bool.not_eq_eq_eq_not] at *)
    all_goals (try simp only [Bool.not_true] at *)
    all_goals (try simp only [Bool.not_false] at *)
    all_goals (try simp only [bne_iff_ne] at *)
    all_goals (try simp only [ne_eq] at *)
    all_goals (try simp only [bne_eq_false_iff_eq] at *)
    all_goals (try simp only [tol_nil] at *)
    all_goals (try simp only [tol_f] at *)
    all_goals (try simp only [tol_t] at *)
    all_goals (first | (exfalso; omega) | (rw [if_pos (by omega)]; done) | (rw [if_neg (by omega)]; done))
  · have HA := HA'
    have HE : Hid (∀ (s : ByteArray) (n : Int), opI ⟨path, 2, s, n⟩ = if s.size = 0 ∧ n = 0 then 0 else 1) := by
      intro s n
      rw [chk_err HPZ.out HA.out]
      unfold opTxt opNum keyB
      simp
    go_wp2_with fail
    all_goals (go_ret; refine ⟨ret_int ?_, hB⟩; rw [HE.out])
    all_goals (try simp only [Bool.not_eq_eq_eq_not] at *)
    all_goals (try simp only [Bool.not_true] at *)
    all_goals (try simp only [Bool.not_false] at *)
    all_goals (try simp only [bne_iff_ne] at *)
    all_goals (try simp only [ne_eq] at *)
    all_goals (try simp only [bne_eq_false_iff_eq] at *)
    all_goals (try simp only [tol_nil] at *)
    all_goals (try simp only [tol_f] at *)
    all_goals (try simp only [tol_t] at *)
    all_goals (first | (exfalso; omega) | (rw [if_pos (by omega)]; done) | (rw [if_neg (by omega)]; done))
  · have HA := HA'
    have HE : Hid (∀ (s : ByteArray) (n : Int), opI ⟨path, 3, s, n⟩ = if (1 ≤ s.size ∧ s.size ≤ 30) ∧ n = 0 then 0 else 1) := by
      intro s n
      rw [chk_err HPZ.out HA.out]
      unfold opTxt opNum keyB
      simp
    go_wp2_with fail
    refine (r08key_any s _).mono ?_
    cases hks : keyB s
    · rintro e w4 ⟨rfl, hb4⟩
      have hB4 := hB.trans (hb4.mono hB.size)
      have HKS : Hid (¬ (1 ≤ s.size ∧ s.size ≤ 30)) := by unfold Hid; unfold keyB at hks; simpa using hks
      clear hks
      go_wp2_with fail
      go_ret
      exact ⟨ret_int (by rw [HE.out, if_neg (fun h => HKS.out h.1)]), hB4⟩
    · rintro e w4 ⟨rfl, hb4⟩
      have HB4 := hid (HB3.out.trans (hb4.mono (by have := HB3.out.size; simp at this; omega)))
      have HKS : Hid (1 ≤ s.size ∧ s.size ≤ 30) := by unfold Hid; unfold keyB at hks; simpa using hks
      clear hB hp q0 q1 q2 q3 hb4 hks
      obtain ⟨hB, hp, q0, q1, q2, q3⟩ := HX.out _ HB4.out
      go_wp2_with fail
      all_goals (go_ret; refine ⟨ret_int ?_, hB⟩; rw [HE.out])
      all_goals (have hks2 := HKS.out)
      all_goals (try simp only [Bool.not_eq_eq_eq_not] at *)
      all_goals (try simp only [Bool.not_true] at *)
      all_goals (try simp only [Bool.not_false] at *)
      all_goals (try simp only [bne_iff_ne] at *)
      all_goals (try simp only [ne_eq] at *)
      all_goals (try simp only [bne_eq_false_iff_eq] at *)
      all_goals (first | (exfalso; omega) | (rw [if_pos (by omega)]; done) | (rw [if_neg (by omega)]; done))
  · have HA := HA'
    have HE : Hid (∀ (s : ByteArray) (n : Int), opI ⟨path, 4, s, n⟩ = if (1 ≤ s.size ∧ s.size ≤ 30) ∧ n = 0 then 0 else 1) := by
      intro s n
      rw [chk_err HPZ.out HA.out]
      unfold opTxt opNum keyB
      simp
    go_wp2_with fail
    refine (r08key_any s _).mono ?_
    cases hks : keyB s
    · rintro e w4 ⟨rfl, hb4⟩
      have hB4 := hB.trans (hb4.mono hB.size)
      have HKS : Hid (¬ (1 ≤ s.size ∧ s.size ≤ 30)) := by unfold Hid; unfold keyB at hks; simpa using hks
      clear hks
      go_wp2_with fail
      go_ret
      exact ⟨ret_int (by rw [HE.out, if_neg (fun h => HKS.out h.1)]), hB4⟩
    · rintro e w4 ⟨rfl, hb4⟩
      have HB4 := hid (HB3.out.trans (hb4.mono (by have := HB3.out.size; simp at this; omega)))
      have HKS : Hid (1 ≤ s.size ∧ s.size ≤ 30) := by unfold Hid; unfold keyB at hks; simpa using hks
      clear hB hp q0 q1 q2 q3 hb4 hks
      obtain ⟨hB, hp, q0, q1, q2, q3⟩ := HX.out _ HB4.out
      go_wp2_with fail
      all_goals (go_ret; refine ⟨ret_int ?_, hB⟩; rw [HE.out])
      all_goals (have hks2 := HKS.out)
      all_goals (try simp only [Bool.not_eq_eq_eq_not] at *)
      all_goals (try simp only [Bool.not_true] at *)
      all_goals (try simp only [Bool.not_false] at *)
      all_goals (try simp only [bne_iff_ne] at *)
      all_goals (try simp only [ne_eq] at *)
      all_goals (try simp only [bne_eq_false_iff_eq] at *)
      all_goals (first | (exfalso; omega) | (rw [if_pos (by omega)]; done) | (rw [if_neg (by omega)]; done))
  · have HA := HA'
    have HE : Hid (∀ (s : ByteArray) (n : Int), opI ⟨path, 5, s, n⟩ = if s.size = 0 ∧ -1099511627776 ≤ n ∧ n ≤ 1099511627776 then 0 else 1) := by
      intro s n
      rw [chk_err HPZ.out HA.out]
      unfold opTxt opNum keyB
      simp
    go_wp2_with fail
    all_goals (go_ret; refine ⟨ret_int ?_, hB⟩; rw [HE.out])
    all_goals (try simp only [Bool.not_eq_eq_eq_not] at *)
    all_goals (try simp only [Bool.not_true] at *)
    all_goals (try simp only [Bool.not_false] at *)
    all_goals (try simp only [bne_iff_ne] at *)
    all_goals (try simp only [ne_eq] at *)
    all_goals (try simp only [bne_eq_false_iff_eq] at *)
    all_goals (try simp only [tol_nil] at *)
    all_goals (try simp only [tol_f] at *)
    all_goals (try simp only [tol_t] at *)
    all_goals (first | (exfalso; omega) | (rw [if_pos (by omega)]; done) | (rw [if_neg (by omega)]; done))
  · have HA := HA'
    have HE : Hid (∀ (s : ByteArray) (n : Int), opI ⟨path, 6, s, n⟩ = if s.size ≤ 30 ∧ n = 0 then 0 else 1) := by
      intro s n
      rw [chk_err HPZ.out HA.out]
      unfold opTxt opNum keyB
      simp
    go_wp2_with fail
    all_goals (go_ret; refine ⟨ret_int ?_, hB⟩; rw [HE.out])
    all_goals (try simp only [Bool.not_eq_eq_eq_not] at *)
    all_goals (try simp only [Bool.not_true] at *)
    all_goals (try simp only [Bool.not_false] at *)
    all_goals (try simp only [bne_iff_ne] at *)
    all_goals (try simp only [ne_eq] at *)
    all_goals (try simp only [bne_eq_false_iff_eq] at *)
    all_goals (try simp only [tol_nil] at *)
    all_goals (try simp only [tol_f] at *)
    all_goals (try simp only [tol_t] at *)
    all_goals (first | (exfalso; omega) | (rw [if_pos (by omega)]; done) | (rw [if_neg (by omega)]; done))
  · have HA := HA'
    have HE : Hid (∀ (s : ByteArray) (n : Int), opI ⟨path, 7, s, n⟩ = if s.size = 0 ∧ n = 0 then 0 else 1) := by
      intro s n
      rw [chk_err HPZ.out HA.out]
      unfold opTxt opNum keyB
      simp
    go_wp2_with fail
    all_goals (go_ret; refine ⟨ret_int ?_, hB⟩; rw [HE.out])
    all_goals (try simp only [Bool.not_eq_eq_eq_not] at *)
    all_goals (try simp only [Bool.not_true] at *)
    all_goals (try simp only [Bool.not_false] at *)
    all_goals (try simp only [bne_iff_ne] at *)
    all_goals (try simp only [ne_eq] at *)
    all_goals (try simp only [bne_eq_false_iff_eq] at *)
    all_goals (try simp only [tol_nil] at *)
    all_goals (try simp only [tol_f] at *)
    all_goals (try simp only [tol_t] at *)
    all_goals (first | (exfalso; omega) | (rw [if_pos (by omega)]; done) | (rw [if_neg (by omega)]; done))
end Go.Proofs.YtmphgnjodangcaaGreat

namespace Go.Proofs.YtmphgnjodangcaaGreat
open Go.RowKit
set_option maxRecDepth 100000

end Go.Proofs.YtmphgnjodangcaaGreat

namespace Go.Proofs.YtmphgnjodangcaaGreat
open Go.RowKit
set_option maxRecDepth 100000

end Go.Proofs.YtmphgnjodangcaaGreat

namespace Go.Proofs.YtmphgnjodangcaaGreat
open Go.RowKit
set_option maxRecDepth 100000

/-- What context.Same tells. -/
def cSame (a b : List Sp) : Bool := apartB a && (apartB b && decide (a = b))
end Go.Proofs.YtmphgnjodangcaaGreat

namespace Go.Proofs.YtmphgnjodangcaaGreat
open Go.RowKit
set_option maxRecDepth 100000

end Go.Proofs.YtmphgnjodangcaaGreat

namespace Go.Proofs.YtmphgnjodangcaaGreat
open Go.RowKit
set_option maxRecDepth 100000

def sumP (es : List En) : Int := (es.map (·.v)).sum
def dd (k : Nat) : Dt := ⟨((k % 4 : Nat) : Int), 1099511627776 - (k : Int)⟩
/-- What the k-th center tells. -/
def cntX (k : Nat) (n : Int) : Kn := (tOne ⟨((k % 4 : Nat) : Int), 1099511627776 - (k : Int), ByteArray.empty, n⟩, ctxOf [dd k])
def cntL (l : List Int) : List Kn := l.mapIdx cntX
def SmallI (n : Int) : Prop := -2147483648 ≤ n ∧ n ≤ 2147483647
end Go.Proofs.YtmphgnjodangcaaGreat

namespace Go.Proofs.YtmphgnjodangcaaGreat
open Go.RowKit
set_option maxRecDepth 100000

/-- One more change that stands and is read: on, number, texts. -/
def stepS (k : Int) (path : List ByteArray) (s : Bool × Int × List ByteArray) (e : Ev) : Bool × Int × List ByteArray :=
  if path.length < e.o.path.length then (s.1, s.2.1, s.2.2 ++ [(e.o.path[path.length]?).getD ByteArray.empty])
  else if k = 1 then (true, s.2.1, s.2.2) else if k = 2 ∨ k = 4 then (s.1, s.2.1, s.2.2 ++ [e.o.s]) else if k = 3 then (s.1, wrap64 (s.2.1 + e.o.n), s.2.2) else s
def takB (l : List Ev) (path : List ByteArray) (e : Ev) : Bool := begB e.o.path path && standB l e
def specF (l : List Ev) (path : List ByteArray) : Bool × Int × List ByteArray := l.foldl (fun s e => if takB l path e then stepS (kindB (lastK path)) path s e else s) (false, 0, [])
/-- What tributaryref15.Spec tells. -/
def specV (l : List Ev) (path : List ByteArray) : Vw := ⟨kindB (lastK path), (specF l path).1, (specF l path).2.1, sdL (specF l path).2.2⟩
end Go.Proofs.YtmphgnjodangcaaGreat

namespace Go.Proofs.YtmphgnjodangcaaGreat
open Go.RowKit
set_option maxRecDepth 100000

end Go.Proofs.YtmphgnjodangcaaGreat

namespace Go.Proofs.YtmphgnjodangcaaGreat
open Go.RowKit
set_option maxRecDepth 100000

theorem once_no {l : List Lf} {i k : Nat} {x y : Lf} (hi : l[i]? = some x) (hk : l[k]? = some y) (hik : i < k) (hd : x.2.dot = y.2.dot) : onceL l = false := by
  unfold onceL
  refine decide_eq_false fun hn => ?_
  rw [List.Nodup, List.pairwise_iff_getElem] at hn
  obtain ⟨h1, e1⟩ := List.getElem?_eq_some_iff.1 hi
  obtain ⟨h2, e2⟩ := List.getElem?_eq_some_iff.1 hk
  have := hn i k (by simpa using h1) (by simpa using h2) hik
  simp only [List.getElem_map] at this
  rw [e1, e2] at this
  exact this hd
theorem once_yes {l : List Lf} (h : ∀ k, k < l.length → ∀ i x y, i < k → l[i]? = some x → l[k]? = some y → x.2.dot ≠ y.2.dot) : onceL l = true := by
  unfold onceL
  refine decide_eq_true ?_
  rw [List.Nodup, List.pairwise_iff_getElem]
  intro i k hi hk hik
  simp only [List.length_map] at hi hk
  simp only [List.getElem_map]
  exact h k hk i _ _ hik (List.getElem?_eq_getElem hi) (List.getElem?_eq_getElem hk)
set_option maxHeartbeats 4000000 in
theorem r08once_any (t : Tr) (w : World) (ve vk : Value) (h : t.rd w w.heap.size ve vk) (hN : t.sz ≤ 90000) :
    Calls Tryz.prog 65 #[.agg #[ve, vk]] w fun e w' => e = .returned (.bool (onceL (t.lvs []))) ∧ Below w.heap.size w w' := by
  obtain ⟨A3, n3, A4, n4, rfl, rfl⟩ := rd_shape h
  have hr := rd_below ((Below.refl _ w).alloc (Nat.le_refl _) (.cells #[.slice A3 t.es.length n3, .slice A4 t.ks.length n4] 27)) (by simp : w.heap.size ≤ (w.alloc (.cells #[.slice A3 t.es.length n3, .slice A4 t.ks.length n4] 27)).heap.size) _ _ _ h
  have HR := hid hr
  have hll := lvs_len t []
  clear hr h
  go_enter Tryz.func65, Tryz.ntmps65
  go_wp2_with fail
  refine (r08leaves_any t _ _ _ HR.out (by omega)).mono ?_
  rintro e w1 ⟨v, rfl, hv, hb1⟩
  have hs1 := hb1.size
  simp only [World.size_alloc] at hs1 hb1
  have hB1 : Below w.heap.size w w1 := ((Below.refl _ w).alloc (Nat.le_refl _) _).trans (hb1.mono (by omega))
  have hvv := hv.sl LfA.mon (by unfold Big; omega)
  obtain ⟨L, HL⟩ : ∃ L : List Lf, Hid (t.lvs [] = L) := ⟨_, rfl⟩
  rw [HL.out] at hvv hll
  obtain ⟨A, c, rfl, l1, l2, l3⟩ := hvv
  unfold Big at l2
  clear hv hb1
  have HL3 := hid l3
  clear l3
  have HB1 := hid hB1
  clear hB1
  have gg := guardDot
  go_wp2_with fail
  go_loopw [10] (fun i wr => ∃ k : Nat, k ≤ L.length ∧ i = .int .i64 k ∧ Hid (∀ k', k' < k → ∀ i x y, i < k' → L[i]? = some x → L[k']? = some y → x.2.dot ≠ y.2.dot) ∧ Below w1.heap.size w1 wr) (fun i _ => L.length - (intOf i).toNat)
  case atStart => exact ⟨0, Nat.zero_le _, rfl, fun k' hk' => by omega, Below.refl _ _⟩
  case round =>
    obtain ⟨k, hk, rfl, hno, hb⟩ := hrel
    have hsz := hb.size
    by_cases hlt : k < L.length
    · obtain ⟨y, hy⟩ : ∃ y, L[k]? = some y := ⟨_, List.getElem?_eq_getElem hlt⟩
      obtain ⟨b, off, rfl, hbB, hc⟩ := HL3.out (by intro e; rw [e] at hlt; simp at hlt)
      obtain ⟨cs, ⟨A7, c7, rfl, _, hok⟩, _, hu⟩ := hc k _ hy
      have HY := hid hy
      have HK0 : Hid (∀ W, Below w1.heap.size w1 W → W.cell? ⟨b, off + k * 5 + 1, none⟩ = some (.int .i64 y.2.dc) ∧ W.cell? ⟨b, off + k * 5 + 2, none⟩ = some (.int .i64 y.2.n)) := fun W hW => ⟨(hW.cell hbB).trans (hu 1 _ rfl), (hW.cell hbB).trans (hu 2 _ rfl)⟩
      have HC := hid hc
      clear hu hc hy hok
      have HB := hid hb
      clear hb
      have hlk : ((k : Int)) < (L.length : Int) := by omega
      go_wp2_with fail
      obtain ⟨wo, hwo⟩ : ∃ wo : World, wo = wr := ⟨_, rfl⟩
      go_loopw [14] (fun j wr => ∃ i : Nat, i ≤ k ∧ j = .int .i64 i ∧ Hid (∀ i' x, i' < i → L[i']? = some x → x.2.dot ≠ y.2.dot) ∧ Below w1.heap.size w1 wr) (fun j _ => k - (intOf j).toNat)
      case atStart => exact ⟨0, Nat.zero_le _, rfl, fun i' x h => by omega, HB.out⟩
      case round =>
        obtain ⟨i, hi, rfl, hni, hbi⟩ := hrel
        by_cases hli : i < k
        · obtain ⟨x, hx⟩ : ∃ x, L[i]? = some x := ⟨_, List.getElem?_eq_getElem (by omega)⟩
          obtain ⟨cs, ⟨A8, c8, rfl, _, hok⟩, _, hu⟩ := HC.out i _ hx
          have d0 : wr.cell? ⟨b, off + i * 5 + 1, none⟩ = some (.int .i64 x.2.dc) := (hbi.cell hbB).trans (hu 1 _ rfl)
          have d1 : wr.cell? ⟨b, off + i * 5 + 2, none⟩ = some (.int .i64 x.2.n) := (hbi.cell hbB).trans (hu 2 _ rfl)
          obtain ⟨e0, e1⟩ := HK0.out wr hbi
          have nn := eqlDot x.2.dot y.2.dot
          have HX := hid hx
          have hli2 : ((i : Int)) < (k : Int) := by omega
          have hli3 : ((i : Int)) < (L.length : Int) := by omega
          have hbL : i < L.length := by omega
          have HBI := hid hbi
          clear hu hx hok hbi
          cases hd : decide (x.2.dot = y.2.dot)
          · have HN := hid (of_decide_eq_false hd)
            rw [hd] at nn
            simp only [En.dot] at nn
            clear hd
            go_wp2_with fail
            go_quiet (fail)
            go_wp2_with fail
            go_roundw
            case rel =>
              refine ⟨i + 1, by omega, by go_num, fun i' x' hi' hx' => ?_, below_drewN HBI.out nq⟩
              rcases Nat.lt_or_ge i' i with h1 | h1
              · exact hni.out i' x' h1 hx'
              · obtain rfl : i' = i := by omega
                have := HX.out
                rw [hx'] at this; cases this
                exact HN.out
            case measure => simp [intOf]; omega
          · have HN := hid (of_decide_eq_true hd)
            rw [hd] at nn
            simp only [En.dot] at nn
            clear hd
            go_wp2_with fail
            go_quiet (fail)
            go_wp2_with fail
            go_ret
            exact ⟨ret_bool (by rw [HL.out]; exact (once_no HX.out HY.out hli HN.out).symm), HB1.out.trans ((below_drewN HBI.out nq).mono (by omega))⟩
        · obtain rfl : i = k := by omega
          have HBI := hid hbi
          clear hbi
          go_wp2_with fail
          go_roundw
          case rel =>
            refine ⟨i + 1, by omega, by go_num, fun k' hk' i' x' y' hi' hx' hy' => ?_, HBI.out⟩
            rcases Nat.lt_or_ge k' i with h1 | h1
            · exact hno.out k' h1 i' x' y' hi' hx' hy'
            · obtain rfl : k' = i := by omega
              have := HY.out
              rw [hy'] at this; cases this
              exact hni.out i' x' hi' hx'
          case measure => simp [intOf]; omega
    · obtain rfl : k = L.length := by omega
      go_wp2_with fail
      go_ret
      exact ⟨ret_bool (by rw [HL.out]; exact (once_yes hno.out).symm), HB1.out.trans (hb.mono (by omega))⟩
end Go.Proofs.YtmphgnjodangcaaGreat

namespace Go.Proofs.YtmphgnjodangcaaGreat
open Go.RowKit
set_option maxRecDepth 100000

theorem app_err {t : Tr} {o : Opr} {d : Dt} (h : appI t o d ≠ 0) : appT t o d = .mk [] [] ∧ appC t o d = [] := by
  unfold appT appC
  exact ⟨if_neg fun q => h q.1, if_neg h⟩
theorem leafX_sz (u : Tr) (o : Opr) (d : Dt) (hz : u.sz ≤ 200) : (leafX u o d).1.sz ≤ 2 ∧ (leafX u o d).2.1.length ≤ 8000 := by
  have s0 : (Tr.mk [] []).sz = 0 := by simp [Tr.sz, Tr.szL]
  have s1 : ∀ e : En, (Tr.mk [e] []).sz = 1 := fun e => by simp [Tr.sz, Tr.szL]
  have s2 : ∀ (k : ByteArray) (e : En), (Tr.mk [] [(k, .mk [e] [])]).sz = 2 := fun k e => by simp [Tr.sz, Tr.szL]
  have h1 := seenC_len u d
  have h2 := seenC_len (kidT u o.s) d
  have h3 := kidT_sz u o.s
  have h6 : (ownD u).length ≤ u.sz := by unfold ownD; rw [List.length_map]; have := es_sz u; omega
  have h4 : (ctxOf [d]).length ≤ 8 := by have := ctxOf_len [d]; simpa using this
  have h5 : (ctxOf (d :: ownD u)).length ≤ 4 * (u.sz + 2) := by have := ctxOf_len (d :: ownD u); rw [List.length_cons] at this; omega
  have e1 : ∀ (b : Prop) [Decidable b] (X Y : Tr), (X.sz ≤ 2) → (Y.sz ≤ 2) → (if b then X else Y).sz ≤ 2 := fun b _ X Y h k => by split <;> assumption
  have e2 : ∀ (b : Prop) [Decidable b] (X : List Sp), X.length ≤ 8000 → (if b then X else []).length ≤ 8000 := fun b _ X h => by split; exact h; simp
  have c1 : ∀ e : En, (Tr.mk [e] []).sz ≤ 2 := fun e => by rw [s1]; omega
  have c2 : ∀ (k : ByteArray) (e : En), (Tr.mk [] [(k, .mk [e] [])]).sz ≤ 2 := fun k e => by rw [s2]; omega
  have c0 : (Tr.mk [] []).sz ≤ 2 := by rw [s0]; omega
  unfold leafX
  split
  · exact ⟨e1 _ _ _ (c1 _) c0, e2 _ _ (by omega)⟩
  split
  · exact ⟨c0, e2 _ _ (by omega)⟩
  split
  · exact ⟨e1 _ _ _ (c2 _ _) c0, e2 _ _ (by omega)⟩
  split
  · exact ⟨c0, e2 _ _ (by omega)⟩
  split
  · exact ⟨e1 _ _ _ (c1 _) c0, e2 _ (ctxOf [d]) (Nat.le_trans h4 (by omega))⟩
  split
  · exact ⟨e1 _ _ _ (c1 _) c0, e2 _ (ctxOf (d :: ownD u)) (Nat.le_trans h5 (by omega))⟩
  · exact ⟨c0, e2 _ _ (by omega)⟩
theorem updX_sz (t : Tr) (p : List ByteArray) (i : Nat) (x : Tr × List Sp × Int) : (updX t p i x).1.sz ≤ x.1.sz + 1 ∧ (updX t p i x).2.1.length ≤ x.2.1.length := by
  have s0 : (Tr.mk [] []).sz = 0 := by simp [Tr.sz, Tr.szL]
  unfold updX updT updC wrapT
  constructor
  · simp only
    split
    · split
      · split
        · omega
        · simp [Tr.sz, Tr.szL]; omega
      · omega
    · omega
  · simp only
    split
    · exact Nat.le_refl _
    · simp
/-- A box above m that holds what is known, in rows above m. -/
def BoxG (m : Nat) (V : World) (e : TypeId) (T : Tr) (c : List Sp) (s : Value) (wx : World) : Prop :=
  ∃ g, s = .pointer (some ⟨g, 0, none⟩) ∧ m ≤ g ∧ ∃ u v x, wx.heap[g]? = some (.cells #[u, v, x] e (0, 0)) ∧ T.rda wx (fun b => m ≤ b ∧ b < wx.heap.size) u v ∧ SlA wx (fun b => m ≤ b ∧ b < wx.heap.size) 3 SpE x c ∧ Below m V wx
theorem boxg_new {m N : Nat} {V w7 : World} {e : TypeId} {T : Tr} {c : List Sp} {u v x : Value} (hb : Below m V w7) (hm : m ≤ w7.heap.size) (hN : m ≤ N) (hr : T.rda w7 (fun b => N ≤ b ∧ b < w7.heap.size) u v) (hc : SlA w7 (fun b => N ≤ b ∧ b < w7.heap.size) 3 SpE x c) :
    BoxG m V e T c (.pointer (some ⟨w7.heap.size, 0, none⟩)) (w7.alloc (.cells #[u, v, x] e)) :=
  ⟨w7.heap.size, rfl, hm, u, v, x, heap_new rfl, rda_up (fun b hb => heap_old hb.2) (fun b hb => ⟨by omega, by rw [World.size_alloc]; omega⟩) _ _ _ hr, hc.up (fun b hb => heap_old hb.2) (fun b hb => ⟨by omega, by rw [World.size_alloc]; omega⟩) (fun _ _ _ h => h), hb.alloc hm _⟩
theorem boxg_set {m N g : Nat} {V w7 : World} {e : TypeId} {T : Tr} {c : List Sp} {u v x a b d : Value} (hbx : w7.heap[g]? = some (.cells #[a, b, d] e (0, 0))) (hb : Below m V w7) (hg : m ≤ g) (hgN : g < N) (hr : T.rda w7 (fun b => N ≤ b ∧ b < w7.heap.size) u v) (hc : SlA w7 (fun b => N ≤ b ∧ b < w7.heap.size) 3 SpE x c) :
    BoxG m V e T c (.pointer (some ⟨g, 0, none⟩)) (((w7.setCell ⟨g, 0, none⟩ u).setCell ⟨g, 1, none⟩ v).setCell ⟨g, 2, none⟩ x) := by
  obtain ⟨_, _, _, hK, hS⟩ := box3 hbx u v x
  have hW := cells_set (i := 2) (cells_set (i := 1) (cells_set (i := 0) hbx u) v) x
  exact ⟨g, rfl, hg, u, v, x, by simpa using hW, rda_up (fun b hb => hK b (by omega)) (fun b hb => ⟨by omega, by rw [hS]; exact hb.2⟩) _ _ _ hr, hc.up (fun b hb => hK b (by omega)) (fun b hb => ⟨by omega, by rw [hS]; exact hb.2⟩) (fun _ _ _ h => h), ((hb.setCell hg _).setCell hg _).setCell hg _⟩
theorem app_total {t : Tr} {o : Opr} {d : Dt} {X : Tr × List Sp × Int} (ho : OpOk o) (hi : opI o = 0) (ht : t.right 5 = true) (hc : chkT t d = true) (hX : X = upLoop t o.path o.path.length (leafX (getK t o.path) o d)) : (X.2.2 = 0 → appT t o d = X.1 ∧ appC t o d = X.2.1 ∧ appI t o d = 0) ∧ (X.2.2 ≠ 0 → appI t o d = X.2.2) := by
  have h := leaf_law ho hc
  rw [← hX] at h
  have hA : appI t o d = if fullB t o then 4 else 0 := by
    unfold appI
    rw [ht, hi, hc]; simp
  cases hf : fullB t o
  · rw [hf, if_neg (by simp)] at h
    rw [hf, if_neg (by simp)] at hA
    rw [h]
    refine ⟨fun _ => ⟨?_, ?_, hA⟩, fun h => absurd rfl h⟩
    · unfold appT
      simp only [hA, true_and]
    · unfold appC
      rw [if_pos hA]
  · rw [hf, if_pos rfl] at h
    rw [hf, if_pos rfl] at hA
    exact ⟨fun h0 => (by rw [h] at h0; cases h0), fun _ => (by rw [hA, h])⟩
set_option maxHeartbeats 8000000 in
theorem opApply_any (t : Tr) (o : Opr) (d : Dt) (ve vk vp : Value) (w : World) (h : t.rd w w.heap.size ve vk) (hp : SlP w w.heap.size 1 StE vp o.path) (ho : o.Ok) (hd : d.Ok) (hN : t.sz ≤ 200) :
    Calls Tryz.prog 77 #[.agg #[ve, vk], .agg #[vp, .int .i64 o.act, .string o.s, .int .i64 o.n], .agg #[.int .i64 d.dc, .int .i64 d.n]] w (RetCE w (appT t o d) (appC t o d) (appI t o d)) := by
  have HC : Hid (∀ w', Below w.heap.size w w' → t.rd w' w'.heap.size ve vk) := fun w' hb => rd_below hb hb.size _ _ _ h
  have HD : Hid (∀ w', Below w.heap.size w w' → SlP w' w'.heap.size 1 StE vp o.path) := fun w' hb => hp.imp hb hb.size fun _ _ _ h => h
  obtain ⟨A3, n3, A4, n4, rfl, rfl⟩ := rd_shape h
  obtain ⟨A5, n5, rfl, p1, p2, p3⟩ := hp
  unfold Big at p2
  have HO := hid ho
  obtain ⟨oa, on, os⟩ := ho
  obtain ⟨path, act, s, n⟩ := o
  simp only at oa on os p1 p2 p3 HD HO ⊢
  have hb0 := ((((Below.refl w.heap.size w).alloc (Nat.le_refl _) (.cells #[.slice A3 t.es.length n3, .slice A4 t.ks.length n4] 27)).alloc (by simp) (.cells #[.slice A5 path.length n5, .int .i64 act, .string s, .int .i64 n] 80)).alloc (by simp; omega) (.cells #[.int .i64 d.dc, .int .i64 d.n] 54)).alloc (by simp; omega) (.cells #[.slice none 0 0, .slice none 0 0, .slice none 0 0] 31)
  have HX : Hid (∀ W, Below (w.heap.size + 4) ((((w.alloc (.cells #[.slice A3 t.es.length n3, .slice A4 t.ks.length n4] 27)).alloc (.cells #[.slice A5 path.length n5, .int .i64 act, .string s, .int .i64 n] 80)).alloc (.cells #[.int .i64 d.dc, .int .i64 d.n] 54)).alloc (.cells #[.slice none 0 0, .slice none 0 0, .slice none 0 0] 31)) W →
      (Below w.heap.size w W ∧ t.rd W W.heap.size (.slice A3 t.es.length n3) (.slice A4 t.ks.length n4) ∧ SlP W W.heap.size 1 StE (.slice A5 path.length n5) path ∧ W.cell? ⟨w.heap.size, 0, none⟩ = some (.slice A3 t.es.length n3) ∧ W.cell? ⟨w.heap.size, 1, none⟩ = some (.slice A4 t.ks.length n4) ∧ W.cell? ⟨w.heap.size + 1, 0, none⟩ = some (.slice A5 path.length n5) ∧ W.cell? ⟨w.heap.size + 1, 1, none⟩ = some (.int .i64 act) ∧ W.cell? ⟨w.heap.size + 1, 2, none⟩ = some (.string s) ∧ W.cell? ⟨w.heap.size + 1, 3, none⟩ = some (.int .i64 n) ∧
        W.cell? ⟨w.heap.size + 2, 0, none⟩ = some (.int .i64 d.dc) ∧ W.cell? ⟨w.heap.size + 2, 1, none⟩ = some (.int .i64 d.n) ∧ W.heap[w.heap.size + 3]? = some (.cells #[.slice none 0 0, .slice none 0 0, .slice none 0 0] 31 (0, 0)))) := fun W hW => by
    have g0 : W.heap[w.heap.size]? = some (.cells #[.slice A3 t.es.length n3, .slice A4 t.ks.length n4] 27 (0, 0)) := (hW.block _ (by omega)).trans ((heap_old (by simp <;> omega)).trans ((heap_old (by simp <;> omega)).trans ((heap_old (by simp)).trans (heap_new rfl))))
    have g1 : W.heap[w.heap.size + 1]? = some (.cells #[.slice A5 path.length n5, .int .i64 act, .string s, .int .i64 n] 80 (0, 0)) := (hW.block _ (by omega)).trans ((heap_old (by simp <;> omega)).trans ((heap_old (by simp)).trans (heap_new (by simp))))
    have g2 : W.heap[w.heap.size + 2]? = some (.cells #[.int .i64 d.dc, .int .i64 d.n] 54 (0, 0)) := (hW.block _ (by omega)).trans ((heap_old (by simp)).trans (heap_new (by simp)))
    have g3 : W.heap[w.heap.size + 3]? = some (.cells #[.slice none 0 0, .slice none 0 0, .slice none 0 0] 31 (0, 0)) := (hW.block _ (by omega)).trans (heap_new (by simp))
    have hB := hb0.trans (hW.mono (by omega))
    exact ⟨hB, HC.out _ hB, HD.out _ hB, cell_cells (i := 0) g0, cell_cells (i := 1) g0, cell_cells (i := 0) g1, cell_cells (i := 1) g1, cell_cells (i := 2) g1, cell_cells (i := 3) g1, cell_cells (i := 0) g2, cell_cells (i := 1) g2, g3⟩
  clear h
  go_enter Tryz.func77, Tryz.ntmps77
  go_wp2_with fail
  obtain ⟨hB, rt, rp, c0, c1, p4, p5, p6, p7, d0, d1, g3⟩ := HX.out _ (Below.refl _ _)
  refine (tRight_any t _ _ _ rt).mono ?_
  cases ht : t.right 5
  · rintro e w1 ⟨rfl, hb1⟩
    have HBN := hid (hb1.mono (show w.heap.size + 4 ≤ _ by simp))
    have hAE : appI t ⟨path, act, s, n⟩ d = 1 := by unfold appI; rw [ht]; rfl
    have HAE := hid hAE
    obtain ⟨hAT, hAC⟩ := app_err (t := t) (o := ⟨path, act, s, n⟩) (d := d) (by rw [hAE]; first | decide | assumption)
    have HAT := hid hAT
    have HAC := hid hAC
    clear hAE hAT hAC
    clear hB rt rp c0 c1 p4 p5 p6 p7 d0 d1 g3 ht hb1
    have hG := (HX.out _ HBN.out).2.2.2.2.2.2.2.2.2.2.2
    have hBz := (HX.out _ HBN.out).1
    have HG := hid hG
    have HBZ := hid hBz
    have k0 := cell_cells (i := 0) hG
    have k1 := cell_cells (i := 1) hG
    have k2 := cell_cells (i := 2) hG
    simp only [List.getElem?_toArray, List.getElem?_cons_zero, List.getElem?_cons_succ] at k0 k1 k2
    have z0 := cells_frz (i := 0) hG
    have z1 := cells_frz (i := 1) hG
    have z2 := cells_frz (i := 2) hG
    clear hG hBz
    go_wp2_with fail
    obtain ⟨r0, r1, r2, q1, q2, q3⟩ := box_fin (N := w.heap.size + 4) (T := .mk [] []) (C := []) HG.out HBZ.out (by omega) (by omega) (rda_nil _ _) SlA.nil
    exact bodyPost_ret (v := .tuple #[.agg #[.slice none 0 0, .slice none 0 0, .slice none 0 0], .int .i64 1]) (by simp [results, Tryz.results77, go_sem, r0, r1, r2] <;> rfl) rfl ⟨_, _, _, by rw [HAE.out], by rw [HAT.out]; exact q1, by rw [HAC.out]; exact q2, q3⟩
  rintro e w1 ⟨rfl, hb1⟩
  have HBN := hid (hb1.mono (show w.heap.size + 4 ≤ _ by simp))
  clear hB rt rp c0 c1 p4 p5 p6 p7 d0 d1 g3 hb1
  obtain ⟨hB, rt, rp, c0, c1, p4, p5, p6, p7, d0, d1, g3⟩ := HX.out _ HBN.out
  have HT := hid ht
  clear ht
  go_wp2_with fail
  refine (check_any ⟨path, act, s, n⟩ _ _ rp HO.out).mono ?_
  by_cases hi : opI ⟨path, act, s, n⟩ = 0
  case neg =>
    rintro e w2 ⟨rfl, hb2⟩
    have HBN2 := hid (HBN.out.trans (hb2.mono (by have := HBN.out.size; simpa using this)))
    have hne : (opI ⟨path, act, s, n⟩ == 0) = false := by simpa using hi
    have hAE : appI t ⟨path, act, s, n⟩ d = (opI ⟨path, act, s, n⟩) := by unfold appI; rw [HT.out]; simp only [Bool.not_true, Bool.false_eq_true, if_false]; rw [if_pos hi]
    have HAE := hid hAE
    obtain ⟨hAT, hAC⟩ := app_err (t := t) (o := ⟨path, act, s, n⟩) (d := d) (by rw [hAE]; first | decide | assumption)
    have HAT := hid hAT
    have HAC := hid hAC
    clear hAE hAT hAC
    clear hB rt rp c0 c1 p4 p5 p6 p7 d0 d1 g3 hb2 hi HBN
    have HBN := HBN2
    have hG := (HX.out _ HBN.out).2.2.2.2.2.2.2.2.2.2.2
    have hBz := (HX.out _ HBN.out).1
    have HG := hid hG
    have HBZ := hid hBz
    have k0 := cell_cells (i := 0) hG
    have k1 := cell_cells (i := 1) hG
    have k2 := cell_cells (i := 2) hG
    simp only [List.getElem?_toArray, List.getElem?_cons_zero, List.getElem?_cons_succ] at k0 k1 k2
    have z0 := cells_frz (i := 0) hG
    have z1 := cells_frz (i := 1) hG
    have z2 := cells_frz (i := 2) hG
    clear hG hBz
    go_wp2_with fail
    obtain ⟨r0, r1, r2, q1, q2, q3⟩ := box_fin (N := w.heap.size + 4) (T := .mk [] []) (C := []) HG.out HBZ.out (by omega) (by omega) (rda_nil _ _) SlA.nil
    exact bodyPost_ret (v := .tuple #[.agg #[.slice none 0 0, .slice none 0 0, .slice none 0 0], .int .i64 (opI ⟨path, act, s, n⟩)]) (by simp [results, Tryz.results77, go_sem, r0, r1, r2] <;> rfl) rfl ⟨_, _, _, by rw [HAE.out], by rw [HAT.out]; exact q1, by rw [HAC.out]; exact q2, q3⟩
  rw [hi]
  rintro e w2 ⟨rfl, hb2⟩
  have HBN2 := hid (HBN.out.trans (hb2.mono (by have := HBN.out.size; simpa using this)))
  have HI := hid hi
  clear hB rt rp c0 c1 p4 p5 p6 p7 d0 d1 g3 hb2 hi HBN
  have HBN := HBN2
  clear HBN2
  obtain ⟨hB, rt, rp, c0, c1, p4, p5, p6, p7, d0, d1, g3⟩ := HX.out _ HBN.out
  go_wp2_with fail
  refine (fcheck_any t d _ _ _ rt (by omega)).mono ?_
  cases hk : chkT t d
  · have hck : chkI t d = 1 := by unfold chkI; rw [hk]; rfl
    rw [hck]
    rintro e w3 ⟨rfl, hb3⟩
    have HBN2 := hid (HBN.out.trans (hb3.mono (by have := HBN.out.size; simpa using this)))
    have hAE : appI t ⟨path, act, s, n⟩ d = 1 := by unfold appI; rw [HT.out, HI.out, hk]; rfl
    have HAE := hid hAE
    obtain ⟨hAT, hAC⟩ := app_err (t := t) (o := ⟨path, act, s, n⟩) (d := d) (by rw [hAE]; first | decide | assumption)
    have HAT := hid hAT
    have HAC := hid hAC
    clear hAE hAT hAC
    clear hB rt rp c0 c1 p4 p5 p6 p7 d0 d1 g3 hb3 hk hck HBN
    have HBN := HBN2
    have hG := (HX.out _ HBN.out).2.2.2.2.2.2.2.2.2.2.2
    have hBz := (HX.out _ HBN.out).1
    have HG := hid hG
    have HBZ := hid hBz
    have k0 := cell_cells (i := 0) hG
    have k1 := cell_cells (i := 1) hG
    have k2 := cell_cells (i := 2) hG
    simp only [List.getElem?_toArray, List.getElem?_cons_zero, List.getElem?_cons_succ] at k0 k1 k2
    have z0 := cells_frz (i := 0) hG
    have z1 := cells_frz (i := 1) hG
    have z2 := cells_frz (i := 2) hG
    clear hG hBz
    go_wp2_with fail
    obtain ⟨r0, r1, r2, q1, q2, q3⟩ := box_fin (N := w.heap.size + 4) (T := .mk [] []) (C := []) HG.out HBZ.out (by omega) (by omega) (rda_nil _ _) SlA.nil
    exact bodyPost_ret (v := .tuple #[.agg #[.slice none 0 0, .slice none 0 0, .slice none 0 0], .int .i64 1]) (by simp [results, Tryz.results77, go_sem, r0, r1, r2] <;> rfl) rfl ⟨_, _, _, by rw [HAE.out], by rw [HAT.out]; exact q1, by rw [HAC.out]; exact q2, q3⟩
  have hck : chkI t d = 0 := by unfold chkI; rw [hk]; rfl
  rw [hck]
  rintro e w3 ⟨rfl, hb3⟩
  have HBN2 := hid (HBN.out.trans (hb3.mono (by have := HBN.out.size; simpa using this)))
  have HK := hid hk
  clear hB rt rp c0 c1 p4 p5 p6 p7 d0 d1 g3 hb3 hk hck HBN
  have HBN := HBN2
  clear HBN2
  have hsN := HBN.out.size
  simp only [World.size_alloc] at hsN
  obtain ⟨hB, rt, rp, c0, c1, p4, p5, p6, p7, d0, d1, g3⟩ := HX.out _ HBN.out
  clear g3
  go_upto_region 9 with (fail)
  obtain ⟨u, HU⟩ : ∃ u, Hid (tgetT t path = u) := ⟨_, rfl⟩
  obtain ⟨⟨LT, LC, LE⟩, HLX⟩ : ∃ q, Hid (leafX u ⟨path, act, s, n⟩ d = q) := ⟨_, rfl⟩
  have HUK : Hid (getK t path = u) := (tgetT_eq HT.out path).symm.trans HU.out
  have hus : u.sz ≤ 200 := by rw [← HUK.out]; exact Nat.le_trans (getK_szle t path) hN
  obtain ⟨hLs, hLl⟩ := leafX_sz u ⟨path, act, s, n⟩ d hus
  rw [HLX.out] at hLs hLl
  simp only at hLs hLl
  have HDO := hid hd
  have HY : Hid (∀ W, Below w3.heap.size w3 W → (Below w.heap.size w W ∧ t.rd W W.heap.size (.slice A3 t.es.length n3) (.slice A4 t.ks.length n4) ∧ SlP W W.heap.size 1 StE (.slice A5 path.length n5) path)) := fun W hW => by
    obtain ⟨a, b, c, _⟩ := HX.out W (HBN.out.trans (hW.mono (by omega)))
    exact ⟨a, b, c⟩
  have HKK : Hid (∀ W, Below w3.heap.size w3 W → (W.cell? ⟨w.heap.size, 0, none⟩ = some (.slice A3 t.es.length n3) ∧ W.cell? ⟨w.heap.size, 1, none⟩ = some (.slice A4 t.ks.length n4) ∧ W.cell? ⟨w.heap.size + 1, 0, none⟩ = some (.slice A5 path.length n5) ∧ W.cell? ⟨w.heap.size + 1, 1, none⟩ = some (.int .i64 act) ∧ W.cell? ⟨w.heap.size + 1, 2, none⟩ = some (.string s) ∧ W.cell? ⟨w.heap.size + 1, 3, none⟩ = some (.int .i64 n) ∧ W.cell? ⟨w.heap.size + 2, 0, none⟩ = some (.int .i64 d.dc) ∧ W.cell? ⟨w.heap.size + 2, 1, none⟩ = some (.int .i64 d.n))) := fun W hW => by
    obtain ⟨_, _, _, a0, a1, a2, a3, a4, a5, a6, a7, _⟩ := HX.out W (HBN.out.trans (hW.mono (by omega)))
    exact ⟨a0, a1, a2, a3, a4, a5, a6, a7⟩
  clear hB rt rp hus
  go_cut [10, 11] (fun s10 s11 wx => s11 = .int .i64 LE ∧ BoxG w3.heap.size w3 31 LT LC s10 wx)
  case first =>
    go_region_held3 (fun W => W.cell? ⟨w.heap.size, 0, none⟩ = some (.slice A3 t.es.length n3) ∧ W.cell? ⟨w.heap.size, 1, none⟩ = some (.slice A4 t.ks.length n4) ∧ W.cell? ⟨w.heap.size + 1, 0, none⟩ = some (.slice A5 path.length n5) ∧ W.cell? ⟨w.heap.size + 1, 1, none⟩ = some (.int .i64 act) ∧ W.cell? ⟨w.heap.size + 1, 2, none⟩ = some (.string s) ∧ W.cell? ⟨w.heap.size + 1, 3, none⟩ = some (.int .i64 n) ∧ W.cell? ⟨w.heap.size + 2, 0, none⟩ = some (.int .i64 d.dc) ∧ W.cell? ⟨w.heap.size + 2, 1, none⟩ = some (.int .i64 d.n))
      (first | go_keep | exact HKK.out _ hbr5.out | exact HKK.out _ (hbr5.out.trans (by go_grown)) | exact HKK.out _ hbr4.out | exact HKK.out _ (hbr4.out.trans (by go_grown)) | exact HKK.out _ (((hbr5.out.setCell (by first | (simp; done) | (simp; omega)) _).setCell (by first | (simp; done) | (simp; omega)) _).setCell (by first | (simp; done) | (simp; omega)) _) | exact HKK.out _ (by go_grown) | fail)
      (first
        | (go_at_call 148; go_loud ((refine (leaf_any u ⟨path, act, s, n⟩ d _ _ _ _ (HRu.out _ (by go_grown)) (HY.out _ (hbr4.out.trans (by go_grown))).2.2 HO.out HDO.out (by have := hN; rw [← HUK.out]; exact Nat.le_trans (getK_szle t path) (by omega))).mono ?_); rw [HLX.out]; dsimp only; rintro e w5 ⟨xe5, xk5, xc5, rfl, hrd5, hsl5, hb⟩; have hbr5 : Hid (Below w3.heap.size w3 w5) := hid (Below.trans (hbr4.out.trans (by go_grown)) (hb.mono (by first | omega | (simp; done) | (simp; omega)))); have hsr5 := hbr5.out.size; obtain ⟨Ar5, nr5, Br5, mr5, hv1, hv2⟩ := rda_shape hrd5; subst hv1; subst hv2; obtain ⟨Dr5, kr5, hv3⟩ := hsl5.shape; subst hv3; have HR5 := hid hrd5; have HL5 := hid hsl5; clear hrd5 hsl5; (first | (have HG5 : Hid (w5.heap[w4.heap.size]? = some (.cells #[.slice none 0 0, .slice none 0 0, .slice none 0 0] 31 (0, 0))) := hid (z_new hb); have k0 : w5.cell? ⟨w4.heap.size, 0, none⟩ = some (.slice none 0 0) := cell_cells (i := 0) HG5.out; have k1 : w5.cell? ⟨w4.heap.size, 1, none⟩ = some (.slice none 0 0) := cell_cells (i := 1) HG5.out; have k2 : w5.cell? ⟨w4.heap.size, 2, none⟩ = some (.slice none 0 0) := cell_cells (i := 2) HG5.out; have z0 := cells_frz (i := 0) HG5.out; have z1 := cells_frz (i := 1) HG5.out; have z2 := cells_frz (i := 2) HG5.out; have hna0 : w.heap.size ≠ w4.heap.size := (by omega); have hnb0 : w4.heap.size ≠ w.heap.size := (by omega); have hna1 : (w.heap.size + 1) ≠ w4.heap.size := (by omega); have hnb1 : w4.heap.size ≠ (w.heap.size + 1) := (by omega); have hna2 : (w.heap.size + 2) ≠ w4.heap.size := (by omega); have hnb2 : w4.heap.size ≠ (w.heap.size + 2) := (by omega)) | (have HG5 : Hid (w5.heap[w3.heap.size]? = some (.cells #[.slice none 0 0, .slice none 0 0, .slice none 0 0] 31 (0, 0))) := hid ((hb.block _ (lt_of_block HGA.out)).trans HGA.out); have k0 : w5.cell? ⟨w3.heap.size, 0, none⟩ = some (.slice none 0 0) := cell_cells (i := 0) HG5.out; have k1 : w5.cell? ⟨w3.heap.size, 1, none⟩ = some (.slice none 0 0) := cell_cells (i := 1) HG5.out; have k2 : w5.cell? ⟨w3.heap.size, 2, none⟩ = some (.slice none 0 0) := cell_cells (i := 2) HG5.out; have z0 := cells_frz (i := 0) HG5.out; have z1 := cells_frz (i := 1) HG5.out; have z2 := cells_frz (i := 2) HG5.out; have hna0 : w.heap.size ≠ w3.heap.size := (by omega); have hnb0 : w3.heap.size ≠ w.heap.size := (by omega); have hna1 : (w.heap.size + 1) ≠ w3.heap.size := (by omega); have hnb1 : w3.heap.size ≠ (w.heap.size + 1) := (by omega); have hna2 : (w.heap.size + 2) ≠ w3.heap.size := (by omega); have hnb2 : w3.heap.size ≠ (w.heap.size + 2) := (by omega)) | skip); clear hb))
        | (go_at_call 61; go_loud ((refine (tget_any t path _ _ _ _ (HY.out _ (by go_grown)).2.1 (HY.out _ (by go_grown)).2.2 (by omega)).mono ?_); rw [HU.out]; rintro e w4 ⟨xe4, xk4, rfl, hrd4, hb⟩; have hbr4 : Hid (Below w3.heap.size w3 w4) := hid (Below.trans (by go_grown) (hb.mono (by first | omega | (simp; done) | (simp; omega)))); have hsr4 := hbr4.out.size; obtain ⟨Ar4, nr4, Br4, mr4, hv1, hv2⟩ := rda_shape hrd4; subst hv1; subst hv2; have HR4 := hid hrd4; have HRu : Hid (∀ W, Below w4.heap.size w4 W → u.rd W W.heap.size (.slice Ar4 u.es.length nr4) (.slice Br4 u.ks.length mr4)) := fun W hW => rda_rd HR4.out (fun b hb => hb.2) hW; clear hrd4; (first | (have HGA : Hid (w4.heap[w3.heap.size]? = some (.cells #[.slice none 0 0, .slice none 0 0, .slice none 0 0] 31 (0, 0))) := hid (z_new2D hb)) | (have HGA : Hid (w4.heap[w3.heap.size]? = some (.cells #[.slice none 0 0, .slice none 0 0, .slice none 0 0] 31 (0, 0))) := hid (z_newD hb)) | (have HGA : Hid (w4.heap[w3.heap.size]? = some (.cells #[.slice none 0 0, .slice none 0 0, .slice none 0 0] 31 (0, 0))) := hid (z_new2 hb)) | (have HGA : Hid (w4.heap[w3.heap.size]? = some (.cells #[.slice none 0 0, .slice none 0 0, .slice none 0 0] 31 (0, 0))) := hid (z_new hb)) | skip); clear hb)))
    all_goals
      go_wp2_with fail
      go_meet
      case rel => exact ⟨rfl, (by first | exact boxg_new hbr5.out hbr5.out.size (by first | omega | (simp; omega)) HR5.out HL5.out | exact boxg_set HG5.out hbr5.out (by omega) (by first | (simp; done) | (simp; omega) | exact lt_of_block HGA.out | (have := lt_of_block HGA.out; simp; omega)) HR5.out HL5.out)⟩
  case rest =>
    obtain ⟨rfl, g, rfl, hgm, xe, xk, xc, hG, hrd, hsl, hbz⟩ := hcut
    obtain ⟨wq, hwq⟩ : ∃ z : World, z = wc := ⟨wc, rfl⟩
    subst hwq
    obtain ⟨Aa, na, Ab, nb, rfl, rfl⟩ := rda_shape hrd
    obtain ⟨Ac, nc, rfl⟩ := hsl.shape
    have hgl := lt_of_block hG
    obtain ⟨a0, a1, a2, a3, a4, a5, a6, a7⟩ := HKK.out _ hbz
    have hpl := path_ok (op_ok HI.out).path
    have hpl1 := hpl.1
    have hpl2 := hpl.2.1
    simp only at hpl1 hpl2
    clear hpl
    obtain ⟨P, HP⟩ : ∃ P, Hid (upLoop t path path.length (LT, LC, LE) = P) := ⟨_, rfl⟩
    go_wp2_with fail
    go_loopw [11, 12] (fun e i wr => ∃ (j : Nat) (X : Tr × List Sp × Int), j ≤ path.length ∧ i = .int .i64 ((j : Int) - 1) ∧ e = .int .i64 X.2.2 ∧ Hid (upLoop t path j X = P) ∧ X.1.sz + j ≤ 2 + path.length ∧ X.2.1.length ≤ 8000 ∧ (∃ xa xb xd, wr.heap[g]? = some (.cells #[xa, xb, xd] 31 (0, 0)) ∧ X.1.rda wr (fun b => w3.heap.size ≤ b ∧ b < wr.heap.size) xa xb ∧ SlA wr (fun b => w3.heap.size ≤ b ∧ b < wr.heap.size) 3 SpE xd X.2.1) ∧ Below w3.heap.size w3 wr) (fun _ i _ => (intOf i + 1).toNat)
    case atStart => exact ⟨path.length, (LT, LC, LE), Nat.le_refl _, by go_num, rfl, HP.out, by simp only; omega, hLl, ⟨_, _, _, hG, hrd, hsl⟩, hbz⟩
    case round =>
      obtain ⟨j, ⟨XT, XC, XE⟩, hj, rfl, rfl, hup, hxs, hxl, ⟨xa, xb, xd, hGr, hrr, hsr⟩, hbr⟩ := hrel
      simp only at hup hxs hxl hrr hsr
      obtain ⟨Aa', na', Ab', nb', rfl, rfl⟩ := rda_shape hrr
      obtain ⟨Ac', nc', rfl⟩ := hsr.shape
      have hgr := lt_of_block hGr
      by_cases hex : j = 0 ∨ XE ≠ 0
      · have HXP : Hid ((XT, XC, XE) = P) := by
          rcases hex with rfl | hne
          · exact hup.out
          · have := hup.out; rw [upLoop_err hne] at this; exact this
        have hTL := app_total (X := (XT, XC, XE)) (op_ok HI.out) HI.out HT.out HK.out (by rw [HXP.out, ← HP.out]; simp only; rw [HUK.out, HLX.out])
        simp only at hTL
        have hGZ := (HX.out wr (HBN.out.trans (hbr.mono (by omega)))).2.2.2.2.2.2.2.2.2.2.2
        have hBw := (HX.out wr (HBN.out.trans (hbr.mono (by omega)))).1
        have q0 := cell_cells (i := 0) hGr
        have q1 := cell_cells (i := 1) hGr
        have q2 := cell_cells (i := 2) hGr
        simp only [List.getElem?_toArray, List.getElem?_cons_zero, List.getElem?_cons_succ] at q0 q1 q2
        have k0 := cell_cells (i := 0) hGZ
        have k1 := cell_cells (i := 1) hGZ
        have k2 := cell_cells (i := 2) hGZ
        simp only [List.getElem?_toArray, List.getElem?_cons_zero, List.getElem?_cons_succ] at k0 k1 k2
        have z0 := cells_frz (i := 0) hGZ
        have z1 := cells_frz (i := 1) hGZ
        have z2 := cells_frz (i := 2) hGZ
        have HGZ := hid hGZ
        have HBw := hid hBw
        have HRR := hid hrr
        have HSR := hid hsr
        have hgne : g ≠ w.heap.size + 3 := by omega
        have hgne' : g ≠ w.heap.size + 1 + 1 + 1 := by omega
        clear hGZ hBw hGr hrr hsr hup HXP
        by_cases he : XE = 0
        · subst he
          obtain ⟨hA1, hA2, hA3⟩ := hTL.1 rfl
          have HA1 := hid hA1
          have HA2 := hid hA2
          have HA3 := hid hA3
          have hj0 : j = 0 := by rcases hex with h | h; exact h; exact absurd rfl h
          subst hj0
          clear hA1 hA2 hA3 hTL hex
          go_wp2_with fail
          obtain ⟨r0, r1, r2, q3, q4, q5⟩ := box_fin (N := w3.heap.size) HGZ.out HBw.out (by omega) (by omega) HRR.out HSR.out
          exact bodyPost_ret (v := .tuple #[.agg #[.slice Aa' XT.es.length na', .slice Ab' XT.ks.length nb', .slice Ac' XC.length nc'], .int .i64 0]) (by simp [results, Tryz.results77, go_sem, r0, r1, r2] <;> rfl) rfl ⟨_, _, _, by rw [HA3.out], by rw [HA1.out]; exact q3, by rw [HA2.out]; exact q4, q5⟩
        · have hA := hTL.2 he
          have HAE := hid hA
          obtain ⟨hAT, hAC⟩ := app_err (t := t) (o := ⟨path, act, s, n⟩) (d := d) (by rw [hA]; exact he)
          have HAT := hid hAT
          have HAC := hid hAC
          have hne : (XE == 0) = false := by simpa using he
          clear hA hAT hAC hTL hex he
          go_wp2_with fail
          all_goals (
            obtain ⟨r0, r1, r2, q3, q4, q5⟩ := box_fin (N := w3.heap.size) (T := .mk [] []) (C := []) HGZ.out HBw.out (by omega) (by omega) (rda_nil _ _) SlA.nil
            exact bodyPost_ret (v := .tuple #[.agg #[.slice none 0 0, .slice none 0 0, .slice none 0 0], .int .i64 XE]) (by simp [results, Tryz.results77, go_sem, r0, r1, r2] <;> rfl) rfl ⟨_, _, _, by rw [HAE.out], by rw [HAT.out]; exact q3, by rw [HAC.out]; exact q4, q5⟩)
      · have hj1 : j ≠ 0 := fun h => hex (.inl h)
        have hXE : XE = 0 := by
          by_cases h : XE = 0
          · exact h
          · exact absurd (.inr h) hex
        subst hXE
        obtain ⟨k, rfl⟩ : ∃ k, j = k + 1 := ⟨j - 1, by omega⟩
        have hkl : k < path.length := by omega
        obtain ⟨key, hkey⟩ : ∃ key, path[k]? = some key := ⟨_, List.getElem?_eq_getElem hkl⟩
        obtain ⟨bq, offq, hA5, hbq, hcq⟩ := p3 (by rintro rfl; simp at hpl1)
        subst hA5
        obtain ⟨cs, ⟨rfl, hkok⟩, _, hku⟩ := hcq k _ hkey
        have HKOK := hid hkok
        rw [show (((k + 1 : Nat) : Int) - 1) = (k : Int) from by omega]
        obtain ⟨T', HT'⟩ : ∃ q, Hid (tgetT t (path.take k) = q) := ⟨_, rfl⟩
        obtain ⟨UT, HU1⟩ : ∃ q, Hid (updT T' key XT XC = q) := ⟨_, rfl⟩
        obtain ⟨UC, HU2⟩ : ∃ q, Hid (updC T' key XT XC = q) := ⟨_, rfl⟩
        obtain ⟨UE, HU3⟩ : ∃ q, Hid (updE T' key XT XC = q) := ⟨_, rfl⟩
        have HUX : Hid (updX t path k (XT, XC, 0) = (UT, UC, UE)) := by
          unfold Hid updX
          rw [hkey]
          simp only [Option.getD_some]
          rw [HT'.out, HU1.out, HU2.out, HU3.out]
        have HUP : Hid (upLoop t path k (UT, UC, UE) = P) := by
          have := hup.out
          rw [upLoop, if_pos rfl, HUX.out] at this
          exact this
        have hTs : T'.sz ≤ 200 := by rw [← HT'.out, tgetT_eq HT.out]; exact Nat.le_trans (getK_szle t _) hN
        have hus := updX_sz t path k (XT, XC, 0)
        rw [HUX.out] at hus
        simp only at hus
        have HGr := hid hGr
        have HY2 : Hid (∀ W, Below wr.heap.size wr W → (t.rd W W.heap.size (.slice A3 t.es.length n3) (.slice A4 t.ks.length n4) ∧ SlP W W.heap.size 1 StE (.slice (some ⟨bq, offq, none⟩) path.length n5) path ∧ XT.rd W W.heap.size (.slice Aa' XT.es.length na') (.slice Ab' XT.ks.length nb') ∧ SlP W W.heap.size 3 SpE (.slice Ac' XC.length nc') XC)) := fun W hW => by
          obtain ⟨_, b, c⟩ := HY.out W (hbr.trans (hW.mono hbr.size))
          exact ⟨b, c, rda_rd hrr (fun b hb => hb.2) hW, hsr.slp (fun b hb => hb.2) hW⟩
        have HK2 : Hid (∀ W, Below wr.heap.size wr W → (W.cell? ⟨w.heap.size, 0, none⟩ = some (.slice A3 t.es.length n3) ∧ W.cell? ⟨w.heap.size, 1, none⟩ = some (.slice A4 t.ks.length n4) ∧ W.cell? ⟨w.heap.size + 1, 0, none⟩ = some (.slice (some ⟨bq, offq, none⟩) path.length n5) ∧ W.cell? ⟨g, 0, none⟩ = some (.slice Aa' XT.es.length na') ∧ W.cell? ⟨g, 1, none⟩ = some (.slice Ab' XT.ks.length nb') ∧ W.cell? ⟨g, 2, none⟩ = some (.slice Ac' XC.length nc') ∧ W.cell? ⟨bq, offq + k, none⟩ = some (.string key))) := fun W hW => by
          obtain ⟨a0, a1, a2, _⟩ := HKK.out W (hbr.trans (hW.mono hbr.size))
          have g1 := (hW.block g hgr).trans hGr
          have hBw := (HY.out wr hbr).1
          exact ⟨a0, a1, a2, cell_cells (i := 0) g1, cell_cells (i := 1) g1, cell_cells (i := 2) g1, (hW.cell (p := ⟨bq, offq + k, none⟩) (by show bq < _; have := hBw.size; omega)).trans ((hBw.cell hbq).trans (by simpa using hku 0 _ rfl))⟩
        have hsr3 := hbr.size
        have hk5 : k ≤ n5 := by omega
        have hk6 : (k : Int) ≤ (n5 : Int) := by omega
        have hk7 : (k : Int) ≤ (path.length : Int) := by omega
        have hk8 : (0 : Int) ≤ (k : Int) := by omega
        have hk9 : k ≤ path.length := by omega
        have hk10 : ¬ (n5 < k) := by omega
        have HKQ := HKK
        have HKU : Hid (w.cell? ⟨bq, offq + k, none⟩ = some (.string key)) := hid (by simpa using hku 0 _ rfl)
        clear hku hcq p3 hkey hkok hup hGr hrr hsr HKK hG hrd hsl
        obtain ⟨x0, x1, x2, x3, x4, x5, x6⟩ := HK2.out _ (Below.refl _ _)
        have HK4 : Hid (∀ W, Below w3.heap.size w3 W → (W.cell? ⟨w.heap.size, 0, none⟩ = some (.slice A3 t.es.length n3) ∧ W.cell? ⟨w.heap.size, 1, none⟩ = some (.slice A4 t.ks.length n4) ∧ W.cell? ⟨w.heap.size + 1, 0, none⟩ = some (.slice (some ⟨bq, offq, none⟩) path.length n5) ∧ W.cell? ⟨bq, offq + k, none⟩ = some (.string key))) := fun W hW => by
          obtain ⟨a0, a1, a2, _⟩ := HKQ.out W hW
          have hBw := (HY.out W hW).1
          exact ⟨a0, a1, a2, (hBw.cell hbq).trans HKU.out⟩
        obtain ⟨y0, y1, y2, y3, y4, y5, y6⟩ := HK2.out wr.drew ((Below.refl wr.heap.size wr).drew)
        go_upto_block 1 with (fail)
        go_cut [11] (fun s11 wx => s11 = .int .i64 UE ∧ BoxG w3.heap.size w3 31 UT UC (.pointer (some ⟨g, 0, none⟩)) wx)
        case first =>
          go_upto_region 13 with (fail)
          refine wp_region_held_drew (S := (fun W => W.cell? ⟨w.heap.size, 0, none⟩ = some (.slice A3 t.es.length n3) ∧ W.cell? ⟨w.heap.size, 1, none⟩ = some (.slice A4 t.ks.length n4) ∧ W.cell? ⟨w.heap.size + 1, 0, none⟩ = some (.slice (some ⟨bq, offq, none⟩) path.length n5) ∧ W.cell? ⟨bq, offq + k, none⟩ = some (.string key))) (by kernel_rfl) ?_ (fun hHeld => ?_)
          · go_keep
          refine wpAnyH_take (i := 0) (oi := _) (v := ?v0) rfl (by kernel_rfl) (by kernel_rfl) (by kernel_rfl) (fun _ _ _ h => h) (Or.inl ⟨by rfl, ?h0⟩) (by assumption) ?_
          case h0 => (intro w hSw; (try dsimp only at hSw); go_simp; (try with_reducible rfl))
          simp only [Act.put, List.setIfInBounds_toArray, List.set_cons_zero, List.set_cons_succ, List.getElem_toArray, List.getElem_cons_zero]
          refine wpAnyH_take (i := 1) (oi := _) (v := ?v1) rfl (by kernel_rfl) (by kernel_rfl) (by kernel_rfl) (fun _ _ _ h => h) (Or.inl ⟨by rfl, ?h1⟩) (by assumption) ?_
          case h1 => (intro w hSw; (try dsimp only at hSw); go_simp; (try with_reducible rfl))
          simp only [Act.put, List.setIfInBounds_toArray, List.set_cons_zero, List.set_cons_succ, List.getElem_toArray, List.getElem_cons_zero, List.getElem_cons_succ]
          refine wpAnyH_take (i := 2) (oi := _) (v := ?v2) rfl (by kernel_rfl) (by kernel_rfl) (by kernel_rfl) (fun _ _ _ h => h) (Or.inl ⟨by rfl, ?h2⟩) (by assumption) ?_
          case h2 => (intro w hSw; (try dsimp only at hSw); go_simp; (try with_reducible rfl))
          simp only [Act.put, List.setIfInBounds_toArray, List.set_cons_zero, List.set_cons_succ, List.getElem_toArray, List.getElem_cons_zero, List.getElem_cons_succ]
          refine wpAnyH_take (i := 3) (oi := _) (v := ?v3) rfl (by kernel_rfl) (by kernel_rfl) (by kernel_rfl) (fun _ _ _ h => h) (Or.inl ⟨by rfl, ?h3⟩) (by assumption) ?_
          case h3 => (intro w hSw; (try dsimp only at hSw); go_simp; (try with_reducible rfl))
          simp only [Act.put, List.setIfInBounds_toArray, List.set_cons_zero, List.set_cons_succ, List.getElem_toArray, List.getElem_cons_zero, List.getElem_cons_succ]
          refine wpAnyH_take (i := 4) (oi := _) (v := ?v4) rfl (by kernel_rfl) (by kernel_rfl) (by kernel_rfl) (fun _ _ _ h => h) (Or.inl ⟨by rfl, ?h4⟩) (by assumption) ?_
          case h4 => (intro w hSw; (try dsimp only at hSw); go_simp; (try with_reducible rfl))
          simp only [Act.put, List.setIfInBounds_toArray, List.set_cons_zero, List.set_cons_succ, List.getElem_toArray, List.getElem_cons_zero, List.getElem_cons_succ]
          refine wpAnyH_take (i := 6) (oi := _) (v := ?v6) rfl (by kernel_rfl) (by kernel_rfl) (by kernel_rfl) (fun _ _ _ h => h) (Or.inl ⟨by rfl, ?h6⟩) (by assumption) ?_
          case h6 => (intro w hSw; (try dsimp only at hSw); go_simp; (try with_reducible rfl))
          simp only [Act.put, List.setIfInBounds_toArray, List.set_cons_zero, List.set_cons_succ, List.getElem_toArray, List.getElem_cons_zero, List.getElem_cons_succ]
          refine wpAnyH_take (i := 7) (oi := _) (v := ?v7) rfl (by kernel_rfl) (by kernel_rfl) (by kernel_rfl) (fun _ _ _ h => h) (Or.inl ⟨by rfl, ?h7⟩) (by assumption) ?_
          case h7 => (intro w hSw; (try dsimp only at hSw); go_simp; (try with_reducible rfl))
          simp only [Act.put, List.setIfInBounds_toArray, List.set_cons_zero, List.set_cons_succ, List.getElem_toArray, List.getElem_cons_zero, List.getElem_cons_succ]
          refine wpAnyH_take (i := 8) (oi := _) (v := ?v8) rfl (by kernel_rfl) (by kernel_rfl) (by kernel_rfl) (fun _ _ _ h => h) (Or.inl ⟨by rfl, ?h8⟩) (by assumption) ?_
          case h8 => (intro w hSw; (try dsimp only at hSw); go_simp; (try with_reducible rfl))
          simp only [Act.put, List.setIfInBounds_toArray, List.set_cons_zero, List.set_cons_succ, List.getElem_toArray, List.getElem_cons_zero, List.getElem_cons_succ]
          refine wpAnyH_take (i := 9) (oi := _) (v := ?v9) rfl (by kernel_rfl) (by kernel_rfl) (by kernel_rfl) (fun _ _ _ h => h) (Or.inl ⟨by rfl, ?h9⟩) (by assumption) ?_
          case h9 => (intro w hSw; (try dsimp only at hSw); go_simp; (try with_reducible rfl))
          simp only [Act.put, List.setIfInBounds_toArray, List.set_cons_zero, List.set_cons_succ, List.getElem_toArray, List.getElem_cons_zero, List.getElem_cons_succ]
          refine wpAnyH_take (i := 10) (oi := _) (v := ?v10) rfl (by kernel_rfl) (by kernel_rfl) (by kernel_rfl) (fun _ _ _ h => h) (Or.inl ⟨by rfl, ?h10⟩) (by assumption) ?_
          case h10 => (intro w hSw; (try dsimp only at hSw); go_simp; (try with_reducible rfl))
          simp only [Act.put, List.setIfInBounds_toArray, List.set_cons_zero, List.set_cons_succ, List.getElem_toArray, List.getElem_cons_zero, List.getElem_cons_succ]
          refine wpAnyH_ready (rs := [5, 11]) (by kernel_rfl) (by simp) ?_
          refine AllReadyH.cons (o := _) rfl (fun K hK => ?_) (AllReadyH.cons (o := _) rfl (fun K hK => ?_) AllReadyH.nil)
          · (go_simp; (go_at_call 61; go_loud ((refine (tget_any t (path.take k) _ _ _ _ (HY2.out _ (by go_grown)).1 ((HY2.out _ (by go_grown)).2.1.takeK (by omega)) (by omega)).mono ?_); rw [HT'.out]; rintro e w4 ⟨xe4, xk4, rfl, hrd4, hb⟩; have hbr4 : Hid (Below wr.heap.size wr w4) := hid (Below.trans (by go_grown) (hb.mono (by first | omega | (simp; done) | (simp; omega)))); have hsr4 := hbr4.out.size; obtain ⟨Ar4, nr4, Br4, mr4, hv1, hv2⟩ := rda_shape hrd4; subst hv1; subst hv2; have HRT : Hid (∀ W, Below w4.heap.size w4 W → T'.rd W W.heap.size (.slice Ar4 T'.es.length nr4) (.slice Br4 T'.ks.length mr4)) := fun W hW => rda_rd hrd4 (fun b hb => hb.2) hW; obtain ⟨u0, u1, u2, u3, u4, u5, u6⟩ := HK2.out w4 hbr4.out; clear hb)); go_wp2_with fail)
            refine hK.out _ _ ?_ (fun hHeld5 => ?_)
            · (first | go_keep | exact HK4.out _ ((((hbr.trans (hbr5.out.mono hsr3)).setCell hgm _).setCell hgm _).setCell hgm _) | exact HK4.out _ (hbr.trans (hbr5.out.mono hsr3)) | exact HK4.out _ (hbr.trans ((hbr5.out.trans (by go_grown)).mono hsr3)) | exact HK4.out _ (hbr.trans (hbr4.out.mono hsr3)) | exact HK4.out _ (hbr.trans ((hbr4.out.trans (by go_grown)).mono hsr3)) | exact HK4.out _ (hbr.trans (Below.mono (by go_grown) hsr3)) | fail)
            clear hK K
            try simp only [Act.put, List.setIfInBounds_toArray, List.set_cons_zero, List.set_cons_succ, List.getElem_toArray, List.getElem_cons_zero, List.getElem_cons_succ]
            refine wpAnyH_ready (rs := [11]) (by kernel_rfl) (by simp) ?_
            refine AllReadyH.cons (o := _) rfl (fun K hK => ?_) AllReadyH.nil
            go_simp
            refine hK.out _ _ ?_ (fun hHeld11 => ?_)
            · (first | go_keep | exact HK4.out _ ((((hbr.trans (hbr5.out.mono hsr3)).setCell hgm _).setCell hgm _).setCell hgm _) | exact HK4.out _ (hbr.trans (hbr5.out.mono hsr3)) | exact HK4.out _ (hbr.trans ((hbr5.out.trans (by go_grown)).mono hsr3)) | exact HK4.out _ (hbr.trans (hbr4.out.mono hsr3)) | exact HK4.out _ (hbr.trans ((hbr4.out.trans (by go_grown)).mono hsr3)) | exact HK4.out _ (hbr.trans (Below.mono (by go_grown) hsr3)) | fail)
            clear hK K
            try simp only [Act.put, List.setIfInBounds_toArray, List.set_cons_zero, List.set_cons_succ, List.getElem_toArray, List.getElem_cons_zero, List.getElem_cons_succ]
            refine wpAnyH_ready (rs := [12]) (by kernel_rfl) (by simp) ?_
            refine AllReadyH.cons (o := _) rfl (fun K hK => ?_) AllReadyH.nil
            (go_simp; (go_at_call 58; go_loud ((refine (oupdate_any T' XT XC key _ _ _ _ _ _ (HRT.out _ (by go_grown)) (HY2.out _ (hbr4.out.trans (by go_grown))).2.2.1 (HY2.out _ (hbr4.out.trans (by go_grown))).2.2.2 HKOK.out (by omega) (by omega) (by omega)).mono ?_); rw [HU1.out, HU2.out, HU3.out]; rintro e w5 ⟨xe5, xk5, xc5, rfl, hrd5, hsl5, hb⟩; have hbr5 : Hid (Below wr.heap.size wr w5) := hid (Below.trans (hbr4.out.trans (by go_grown)) (hb.mono (by first | omega | (simp; done) | (simp; omega)))); have hsr5 := hbr5.out.size; obtain ⟨Ar5, nr5, Br5, mr5, hv1, hv2⟩ := rda_shape hrd5; subst hv1; subst hv2; obtain ⟨Dr5, kr5, hv3⟩ := hsl5.shape; subst hv3; have HR5 := hid hrd5; have HL5 := hid hsl5; have HG5 := hid ((hbr5.out.block g hgr).trans HGr.out); obtain ⟨v0, v1, v2, v3, v4, v5, v6⟩ := HK2.out w5 hbr5.out; have z0 := cells_frz (i := 0) HG5.out; have z1 := cells_frz (i := 1) HG5.out; have z2 := cells_frz (i := 2) HG5.out; clear hrd5 hsl5 hb)); go_wp2_with fail)
            refine hK.out _ _ ?_ (fun hHeld12 => ?_)
            · (first | go_keep | exact HK4.out _ ((((hbr.trans (hbr5.out.mono hsr3)).setCell hgm _).setCell hgm _).setCell hgm _) | exact HK4.out _ (hbr.trans (hbr5.out.mono hsr3)) | exact HK4.out _ (hbr.trans ((hbr5.out.trans (by go_grown)).mono hsr3)) | exact HK4.out _ (hbr.trans (hbr4.out.mono hsr3)) | exact HK4.out _ (hbr.trans ((hbr4.out.trans (by go_grown)).mono hsr3)) | exact HK4.out _ (hbr.trans (Below.mono (by go_grown) hsr3)) | fail)
            clear hK K
            try simp only [Act.put, List.setIfInBounds_toArray, List.set_cons_zero, List.set_cons_succ, List.getElem_toArray, List.getElem_cons_zero, List.getElem_cons_succ]
            refine wpAnyH_take (i := 13) (oi := _) (v := ?v13) rfl (by kernel_rfl) (by kernel_rfl) (by kernel_rfl) (fun _ _ _ h => h) (Or.inl ⟨by rfl, ?h13⟩) (by assumption) ?_
            case h13 => (intro w hSw; (try dsimp only at hSw); go_simp; (try with_reducible rfl))
            simp only [Act.put, List.setIfInBounds_toArray, List.set_cons_zero, List.set_cons_succ, List.getElem_toArray, List.getElem_cons_zero, List.getElem_cons_succ]
            refine wpAnyH_take (i := 14) (oi := _) (v := ?v14) rfl (by kernel_rfl) (by kernel_rfl) (by kernel_rfl) (fun _ _ _ h => h) (Or.inl ⟨by rfl, ?h14⟩) (by assumption) ?_
            case h14 => (intro w hSw; (try dsimp only at hSw); go_simp; (try with_reducible rfl))
            simp only [Act.put, List.setIfInBounds_toArray, List.set_cons_zero, List.set_cons_succ, List.getElem_toArray, List.getElem_cons_zero, List.getElem_cons_succ]
            refine wpAnyH_take (i := 15) (oi := _) (v := ?v15) rfl (by kernel_rfl) (by kernel_rfl) (by kernel_rfl) (fun _ _ _ h => h) (Or.inl ⟨by rfl, ?h15⟩) (by assumption) ?_
            case h15 => (intro w hSw; (try dsimp only at hSw); go_simp; (try with_reducible rfl))
            simp only [Act.put, List.setIfInBounds_toArray, List.set_cons_zero, List.set_cons_succ, List.getElem_toArray, List.getElem_cons_zero, List.getElem_cons_succ]
            refine wpAnyH_ready (rs := [16]) (by kernel_rfl) (by simp) ?_
            refine AllReadyH.cons (o := _) rfl (fun K hK => ?_) AllReadyH.nil
            go_simp
            refine hK.out _ _ ?_ (fun hHeld16 => ?_)
            · (first | go_keep | exact HK4.out _ ((((hbr.trans (hbr5.out.mono hsr3)).setCell hgm _).setCell hgm _).setCell hgm _) | exact HK4.out _ (hbr.trans (hbr5.out.mono hsr3)) | exact HK4.out _ (hbr.trans ((hbr5.out.trans (by go_grown)).mono hsr3)) | exact HK4.out _ (hbr.trans (hbr4.out.mono hsr3)) | exact HK4.out _ (hbr.trans ((hbr4.out.trans (by go_grown)).mono hsr3)) | exact HK4.out _ (hbr.trans (Below.mono (by go_grown) hsr3)) | fail)
            clear hK K
            try simp only [Act.put, List.setIfInBounds_toArray, List.set_cons_zero, List.set_cons_succ, List.getElem_toArray, List.getElem_cons_zero, List.getElem_cons_succ]
            refine wpAnyH_take (i := 17) (oi := _) (v := ?v17) rfl (by kernel_rfl) (by kernel_rfl) (by kernel_rfl) (fun _ _ _ h => h) (Or.inl ⟨by rfl, ?h17⟩) (by assumption) ?_
            case h17 => (intro w hSw; (try dsimp only at hSw); go_simp; (try with_reducible rfl))
            simp only [Act.put, List.setIfInBounds_toArray, List.set_cons_zero, List.set_cons_succ, List.getElem_toArray, List.getElem_cons_zero, List.getElem_cons_succ]
            refine wpAnyH_done (by kernel_rfl) ?_ _
            go_wp2_with fail
            go_meet
            case rel => exact ⟨rfl, boxg_set HG5.out (hbr.trans (hbr5.out.mono (by omega))) hgm (by first | omega | (simp; omega)) HR5.out HL5.out⟩
          · go_simp
            refine hK.out _ _ ?_ (fun hHeld11 => ?_)
            · (first | go_keep | exact HK4.out _ ((((hbr.trans (hbr5.out.mono hsr3)).setCell hgm _).setCell hgm _).setCell hgm _) | exact HK4.out _ (hbr.trans (hbr5.out.mono hsr3)) | exact HK4.out _ (hbr.trans ((hbr5.out.trans (by go_grown)).mono hsr3)) | exact HK4.out _ (hbr.trans (hbr4.out.mono hsr3)) | exact HK4.out _ (hbr.trans ((hbr4.out.trans (by go_grown)).mono hsr3)) | exact HK4.out _ (hbr.trans (Below.mono (by go_grown) hsr3)) | fail)
            clear hK K
            try simp only [Act.put, List.setIfInBounds_toArray, List.set_cons_zero, List.set_cons_succ, List.getElem_toArray, List.getElem_cons_zero, List.getElem_cons_succ]
            refine wpAnyH_ready (rs := [5]) (by kernel_rfl) (by simp) ?_
            refine AllReadyH.cons (o := _) rfl (fun K hK => ?_) AllReadyH.nil
            (go_simp; (go_at_call 61; go_loud ((refine (tget_any t (path.take k) _ _ _ _ (HY2.out _ (by go_grown)).1 ((HY2.out _ (by go_grown)).2.1.takeK (by omega)) (by omega)).mono ?_); rw [HT'.out]; rintro e w4 ⟨xe4, xk4, rfl, hrd4, hb⟩; have hbr4 : Hid (Below wr.heap.size wr w4) := hid (Below.trans (by go_grown) (hb.mono (by first | omega | (simp; done) | (simp; omega)))); have hsr4 := hbr4.out.size; obtain ⟨Ar4, nr4, Br4, mr4, hv1, hv2⟩ := rda_shape hrd4; subst hv1; subst hv2; have HRT : Hid (∀ W, Below w4.heap.size w4 W → T'.rd W W.heap.size (.slice Ar4 T'.es.length nr4) (.slice Br4 T'.ks.length mr4)) := fun W hW => rda_rd hrd4 (fun b hb => hb.2) hW; obtain ⟨u0, u1, u2, u3, u4, u5, u6⟩ := HK2.out w4 hbr4.out; clear hb)); go_wp2_with fail)
            refine hK.out _ _ ?_ (fun hHeld5 => ?_)
            · (first | go_keep | exact HK4.out _ ((((hbr.trans (hbr5.out.mono hsr3)).setCell hgm _).setCell hgm _).setCell hgm _) | exact HK4.out _ (hbr.trans (hbr5.out.mono hsr3)) | exact HK4.out _ (hbr.trans ((hbr5.out.trans (by go_grown)).mono hsr3)) | exact HK4.out _ (hbr.trans (hbr4.out.mono hsr3)) | exact HK4.out _ (hbr.trans ((hbr4.out.trans (by go_grown)).mono hsr3)) | exact HK4.out _ (hbr.trans (Below.mono (by go_grown) hsr3)) | fail)
            clear hK K
            try simp only [Act.put, List.setIfInBounds_toArray, List.set_cons_zero, List.set_cons_succ, List.getElem_toArray, List.getElem_cons_zero, List.getElem_cons_succ]
            refine wpAnyH_ready (rs := [12]) (by kernel_rfl) (by simp) ?_
            refine AllReadyH.cons (o := _) rfl (fun K hK => ?_) AllReadyH.nil
            (go_simp; (go_at_call 58; go_loud ((refine (oupdate_any T' XT XC key _ _ _ _ _ _ (HRT.out _ (by go_grown)) (HY2.out _ (hbr4.out.trans (by go_grown))).2.2.1 (HY2.out _ (hbr4.out.trans (by go_grown))).2.2.2 HKOK.out (by omega) (by omega) (by omega)).mono ?_); rw [HU1.out, HU2.out, HU3.out]; rintro e w5 ⟨xe5, xk5, xc5, rfl, hrd5, hsl5, hb⟩; have hbr5 : Hid (Below wr.heap.size wr w5) := hid (Below.trans (hbr4.out.trans (by go_grown)) (hb.mono (by first | omega | (simp; done) | (simp; omega)))); have hsr5 := hbr5.out.size; obtain ⟨Ar5, nr5, Br5, mr5, hv1, hv2⟩ := rda_shape hrd5; subst hv1; subst hv2; obtain ⟨Dr5, kr5, hv3⟩ := hsl5.shape; subst hv3; have HR5 := hid hrd5; have HL5 := hid hsl5; have HG5 := hid ((hbr5.out.block g hgr).trans HGr.out); obtain ⟨v0, v1, v2, v3, v4, v5, v6⟩ := HK2.out w5 hbr5.out; have z0 := cells_frz (i := 0) HG5.out; have z1 := cells_frz (i := 1) HG5.out; have z2 := cells_frz (i := 2) HG5.out; clear hrd5 hsl5 hb)); go_wp2_with fail)
            refine hK.out _ _ ?_ (fun hHeld12 => ?_)
            · (first | go_keep | exact HK4.out _ ((((hbr.trans (hbr5.out.mono hsr3)).setCell hgm _).setCell hgm _).setCell hgm _) | exact HK4.out _ (hbr.trans (hbr5.out.mono hsr3)) | exact HK4.out _ (hbr.trans ((hbr5.out.trans (by go_grown)).mono hsr3)) | exact HK4.out _ (hbr.trans (hbr4.out.mono hsr3)) | exact HK4.out _ (hbr.trans ((hbr4.out.trans (by go_grown)).mono hsr3)) | exact HK4.out _ (hbr.trans (Below.mono (by go_grown) hsr3)) | fail)
            clear hK K
            try simp only [Act.put, List.setIfInBounds_toArray, List.set_cons_zero, List.set_cons_succ, List.getElem_toArray, List.getElem_cons_zero, List.getElem_cons_succ]
            refine wpAnyH_take (i := 13) (oi := _) (v := ?vb13) rfl (by kernel_rfl) (by kernel_rfl) (by kernel_rfl) (fun _ _ _ h => h) (Or.inl ⟨by rfl, ?hb13⟩) (by assumption) ?_
            case hb13 => (intro w hSw; (try dsimp only at hSw); go_simp; (try with_reducible rfl))
            simp only [Act.put, List.setIfInBounds_toArray, List.set_cons_zero, List.set_cons_succ, List.getElem_toArray, List.getElem_cons_zero, List.getElem_cons_succ]
            refine wpAnyH_take (i := 14) (oi := _) (v := ?vb14) rfl (by kernel_rfl) (by kernel_rfl) (by kernel_rfl) (fun _ _ _ h => h) (Or.inl ⟨by rfl, ?hb14⟩) (by assumption) ?_
            case hb14 => (intro w hSw; (try dsimp only at hSw); go_simp; (try with_reducible rfl))
            simp only [Act.put, List.setIfInBounds_toArray, List.set_cons_zero, List.set_cons_succ, List.getElem_toArray, List.getElem_cons_zero, List.getElem_cons_succ]
            refine wpAnyH_take (i := 15) (oi := _) (v := ?vb15) rfl (by kernel_rfl) (by kernel_rfl) (by kernel_rfl) (fun _ _ _ h => h) (Or.inl ⟨by rfl, ?hb15⟩) (by assumption) ?_
            case hb15 => (intro w hSw; (try dsimp only at hSw); go_simp; (try with_reducible rfl))
            simp only [Act.put, List.setIfInBounds_toArray, List.set_cons_zero, List.set_cons_succ, List.getElem_toArray, List.getElem_cons_zero, List.getElem_cons_succ]
            refine wpAnyH_ready (rs := [16]) (by kernel_rfl) (by simp) ?_
            refine AllReadyH.cons (o := _) rfl (fun K hK => ?_) AllReadyH.nil
            go_simp
            refine hK.out _ _ ?_ (fun hHeld16 => ?_)
            · (first | go_keep | exact HK4.out _ ((((hbr.trans (hbr5.out.mono hsr3)).setCell hgm _).setCell hgm _).setCell hgm _) | exact HK4.out _ (hbr.trans (hbr5.out.mono hsr3)) | exact HK4.out _ (hbr.trans ((hbr5.out.trans (by go_grown)).mono hsr3)) | exact HK4.out _ (hbr.trans (hbr4.out.mono hsr3)) | exact HK4.out _ (hbr.trans ((hbr4.out.trans (by go_grown)).mono hsr3)) | exact HK4.out _ (hbr.trans (Below.mono (by go_grown) hsr3)) | fail)
            clear hK K
            try simp only [Act.put, List.setIfInBounds_toArray, List.set_cons_zero, List.set_cons_succ, List.getElem_toArray, List.getElem_cons_zero, List.getElem_cons_succ]
            refine wpAnyH_take (i := 17) (oi := _) (v := ?vb17) rfl (by kernel_rfl) (by kernel_rfl) (by kernel_rfl) (fun _ _ _ h => h) (Or.inl ⟨by rfl, ?hb17⟩) (by assumption) ?_
            case hb17 => (intro w hSw; (try dsimp only at hSw); go_simp; (try with_reducible rfl))
            simp only [Act.put, List.setIfInBounds_toArray, List.set_cons_zero, List.set_cons_succ, List.getElem_toArray, List.getElem_cons_zero, List.getElem_cons_succ]
            refine wpAnyH_done (by kernel_rfl) ?_ _
            go_wp2_with fail
            go_meet
            case rel => exact ⟨rfl, boxg_set HG5.out (hbr.trans (hbr5.out.mono (by omega))) hgm (by first | omega | (simp; omega)) HR5.out HL5.out⟩
        case rest =>
          obtain ⟨rfl, g', hgg, _, xa', xb', xd', hG', hr', hs', hbz'⟩ := hcut
          simp only [Value.pointer.injEq, Option.some.injEq, Addr.mk.injEq] at hgg
          obtain ⟨rfl, _⟩ := hgg
          go_wp2_with fail
          go_roundw
          case rel => exact ⟨k, (UT, UC, UE), by omega, by go_num, rfl, HUP.out, by simp only; omega, by simp only; omega, ⟨_, _, _, hG', hr', hs'⟩, hbz'⟩
          case measure => first | (simp [intOf]; done) | (simp [intOf]; omega)
end Go.Proofs.YtmphgnjodangcaaGreat

namespace Go.Proofs.YtmphgnjodangcaaGreat
open Go.RowKit
set_option maxRecDepth 100000

/-- A box above m that holds a tree, in rows above m. -/
def BoxT (m : Nat) (V : World) (e : TypeId) (T : Tr) (s : Value) (wx : World) : Prop :=
  ∃ g, s = .pointer (some ⟨g, 0, none⟩) ∧ m ≤ g ∧ ∃ u v, wx.heap[g]? = some (.cells #[u, v] e (0, 0)) ∧ T.rda wx (fun b => m ≤ b ∧ b < wx.heap.size) u v ∧ Below m V wx
end Go.Proofs.YtmphgnjodangcaaGreat

namespace Go.Proofs.YtmphgnjodangcaaGreat
open Go.RowKit
set_option maxRecDepth 100000

end Go.Proofs.YtmphgnjodangcaaGreat

namespace Go.Proofs.YtmphgnjodangcaaGreat
open Go.ChangeShapes Go.WideShapes Go.ChangeAt Go.RowKit
set_option maxRecDepth 100000

/-- No weight of a datum is beyond the reach. -/
def Wt {H : Type} (P : Program) (t : TypeId) (d : DataW H) : Prop := ∀ m ∈ d.weights P t, m ≤ reachBytes

section
variable {H : Type} {enc : TypeId × Value → H} {w : World}

theorem Wt.field {P : Program} {t : TypeId} {fs : Array Field} {parts : List (DataW H)} (hu : P.underlying t = some (.struct fs)) (h : Wt P t (.agg parts)) {i : Nat} {f : Field} {d : DataW H} (hf : fs[i]? = some f) (hd : parts[i]? = some d) : Wt P f.type d := fun m hm => by
  refine h m ?_
  unfold DataW.weights
  rw [hu]
  exact DataW.weights_mem_each (j := i) (t := f.type) (d := d) (by simp [hf]) hd m hm
theorem Wt.all {P : Program} {e : TypeId} : ∀ {ds : List (DataW H)} {d : DataW H}, d ∈ ds → ∀ m ∈ d.weights P e, m ∈ DataW.weightsAll P e ds
  | x :: ds, d, hd, m, hm => by
    rw [DataW.weightsAll]
    rcases List.mem_cons.1 hd with rfl | hd
    · exact List.mem_append_left _ hm
    · exact List.mem_append_right _ (Wt.all hd m hm)
theorem Wt.elem {P : Program} {t e : TypeId} {elems spare : List (DataW H)} (hu : P.underlying t = some (.slice e)) (h : Wt P t (.slice elems spare)) : (elems.length + spare.length) * P.bytesOf e ≤ reachBytes ∧ ∀ d ∈ elems, Wt P e d := by
  unfold Wt at h
  unfold DataW.weights at h
  rw [hu] at h
  refine ⟨h _ (by simp), fun d hd m hm => h m ?_⟩
  exact List.mem_cons_of_mem _ (List.mem_append_left _ (Wt.all hd m hm))

theorem wf_i64 {n : Int} (h : (Lit.int .i64 n).wf = true) : I64 n := by
  have h1 : IntKind.i64.min = -9223372036854775808 := rfl
  have h2 : IntKind.i64.max = 9223372036854775807 := rfl
  simp only [Lit.wf, Bool.and_eq_true, decide_eq_true_eq] at h
  unfold I64; omega

/-- A slice, whose elements are opened by hel. -/
theorem slc_open {α : Type} {E : α → List Value → Prop} {t e : TypeId} {sz bytes fuel : Nat} {cs : List Value} {x : DataW H × List MemPlace} (hu : Tryz.prog.underlying t = some (.slice e)) (hC : Tryz.prog.cellsOf e = sz) (hsz : 0 < sz) (hB : Tryz.prog.bytesOf e = bytes) (hb : 0 < bytes)
    (h : DataW.trod enc Tryz.prog w 0 (fun _ => true) true fuel t cs = some x) (hw : Wt Tryz.prog t x.1)
    (hel : ∀ n cs y, n < fuel → DataW.trod enc Tryz.prog w 0 (fun _ => true) true n e cs = some y → Wt Tryz.prog e y.1 → ∃ a, E a cs) :
    ∃ v xs, cs = [v] ∧ SlP w w.heap.size sz E v xs := by
  rcases DataW.trod_slice hu h with ⟨rfl, rfl⟩ | ⟨a, len, cap, elems, rest, n, rfl, rfl, rfl, _, hl, hm, hlen, he, hs, _⟩
  · exact ⟨_, [], rfl, SlP.nil⟩
  · obtain ⟨hr, hwe⟩ := Wt.elem hu hw
    rw [hB, List.length_map, List.length_map] at hr
    have hrl := (hs rfl).1
    have hcap : cap ≤ Big := by
      have h1 : (elems.length + rest.length) * 1 ≤ (elems.length + rest.length) * bytes := Nat.mul_le_mul_left _ hb
      unfold reachBytes at hr; unfold Big; omega
    have key : ∀ i, i < len → ∃ (x : α) (c : List Value), E x c ∧ c.length = sz ∧ ∀ j, j < sz → w.cell? (a.add (i * sz + j)) = c[j]? := fun i hi => by
      have h1 := he i hi
      have h2 : elems[i]? = some elems[i] := List.getElem?_eq_getElem (by omega)
      rw [h2] at h1
      obtain ⟨c, h3, h4⟩ := Option.bind_eq_some_iff.1 h1
      obtain ⟨_, h5, h6⟩ := World.cells?_some h3
      obtain ⟨x, hx⟩ := hel n c elems[i] (Nat.lt_succ_self n) h4 (hwe _ (List.mem_map.2 ⟨elems[i], List.getElem_mem _, rfl⟩))
      rw [hC] at h5 h6
      exact ⟨x, c, hx, h5, fun j hj => by rw [← Go.Deep.add_add]; exact h6 j hj⟩
    rcases Nat.eq_zero_or_pos len with h0 | h0
    · subst h0
      exact ⟨_, [], rfl, ⟨some a, cap, rfl, Nat.zero_le _, Nat.zero_le _, fun h => absurd rfl h⟩⟩
    · obtain ⟨x0, c0, _, hc0, hcell0⟩ := key 0 h0
      have hv0 := hcell0 0 hsz
      rw [List.getElem?_eq_getElem (by omega)] at hv0
      obtain ⟨b, off, spot⟩ := a
      have hspot : spot = none := by simpa [Addr.add] using World.cell?_spot hv0
      subst hspot
      have hbl : b < w.heap.size := by
        have := World.block_lt_of_cell? w _ hv0
        simpa [Addr.add] using this
      classical
      refine ⟨_, (List.range len).map fun i => if hi : i < len then Classical.choose (key i hi) else x0, rfl, some ⟨b, off, none⟩, cap, by simp, by simp; omega, by simp; omega, fun _ => ⟨b, off, rfl, hbl, fun j x hx => ?_⟩⟩
      have hj : j < len := by have := (List.getElem?_eq_some_iff.1 hx).1; simpa using this
      rw [List.getElem?_map, List.getElem?_range hj] at hx
      simp only [Option.map_some, dif_pos hj, Option.some.injEq] at hx
      obtain ⟨c, h1, h2, h3⟩ := Classical.choose_spec (key j hj)
      rw [hx] at h1
      refine ⟨c, h1, h2, fun i u hi => ?_⟩
      have hlt : i < sz := by have := (List.getElem?_eq_some_iff.1 hi).1; omega
      have := h3 i hlt
      rw [hi] at this
      rw [← this]
      congr 1
      simp [Addr.add, Nat.add_assoc]

theorem cellsDot : Tryz.prog.cellsOf 54 = 2 := by kernel_rfl
theorem cellsEntry : Tryz.prog.cellsOf 142 = 4 := by kernel_rfl
theorem cellsTree : Tryz.prog.cellsOf 27 = 2 := by kernel_rfl
theorem cellsKid : Tryz.prog.cellsOf 155 = 3 := by kernel_rfl
theorem cellsOne : Tryz.prog.cellsOf 9 = 1 ∧ Tryz.prog.cellsOf 3 = 1 ∧ Tryz.prog.cellsOf 2 = 1 ∧ Tryz.prog.cellsOf 24 = 1 ∧ Tryz.prog.cellsOf 25 = 1 := by refine ⟨?_, ?_, ?_, ?_, ?_⟩ <;> kernel_rfl
theorem bytesEntry : Tryz.prog.bytesOf 142 = 40 := by kernel_rfl
theorem bytesKid : Tryz.prog.bytesOf 155 = 64 := by kernel_rfl

theorem dot_open {fuel : Nat} {cs : List Value} {x : DataW H × List MemPlace} (h : DataW.trod enc Tryz.prog w 0 (fun _ => true) true fuel 54 cs = some x) : ∃ d : Dt, DtE d cs := by
  obtain ⟨xs, n, rfl, rfl, hl, hx, hf⟩ := DataW.trod_struct Tryz.underlying54 h
  rw [cellsDot] at hl
  match cs, hl with
  | [c0, c1], _ =>
    match xs, hx with
    | [y0, y1], _ =>
      have f0 : DataW.trod enc Tryz.prog w 0 (fun _ => true) true n 3 (([c0, c1].drop 0).take (Tryz.prog.cellsOf 3)) = some y0 := hf 0 _ rfl
      rw [cellsOne.2.1] at f0
      have f1 : DataW.trod enc Tryz.prog w 0 (fun _ => true) true n 2 (([c0, c1].drop 1).take (Tryz.prog.cellsOf 2)) = some y1 := hf 1 _ rfl
      rw [cellsOne.2.2.1] at f1
      obtain ⟨a, e0, _, w0⟩ := DataW.trod_int Tryz.underlying3 (show DataW.trod enc Tryz.prog w 0 (fun _ => true) true n 3 [c0] = some y0 from f0)
      obtain ⟨b, e1, _, w1⟩ := DataW.trod_int Tryz.underlying2 (show DataW.trod enc Tryz.prog w 0 (fun _ => true) true n 2 [c1] = some y1 from f1)
      simp at e0 e1
      subst e0; subst e1
      exact ⟨⟨a, b⟩, rfl, wf_i64 w0, wf_i64 w1⟩
theorem entry_open {fuel : Nat} {cs : List Value} {x : DataW H × List MemPlace} (h : DataW.trod enc Tryz.prog w 0 (fun _ => true) true fuel 142 cs = some x) (hw : Wt Tryz.prog 142 x.1) : ∃ e : En, EnE e cs := by
  obtain ⟨xs, n, rfl, rfl, hl, hx, hf⟩ := DataW.trod_struct Tryz.underlying142 h
  rw [cellsEntry] at hl
  match cs, hl with
  | [c0, c1, c2, c3], _ =>
    match xs, hx with
    | [y0, y1, y2], _ =>
      have f0 : DataW.trod enc Tryz.prog w 0 (fun _ => true) true n 54 (([c0, c1, c2, c3].drop 0).take (Tryz.prog.cellsOf 54)) = some y0 := hf 0 _ rfl
      rw [cellsDot] at f0
      have f1 : DataW.trod enc Tryz.prog w 0 (fun _ => true) true n 9 (([c0, c1, c2, c3].drop 2).take (Tryz.prog.cellsOf 9)) = some y1 := hf 1 _ rfl
      rw [cellsOne.1] at f1
      have f2 : DataW.trod enc Tryz.prog w 0 (fun _ => true) true n 2 (([c0, c1, c2, c3].drop 3).take (Tryz.prog.cellsOf 2)) = some y2 := hf 2 _ rfl
      rw [cellsOne.2.2.1] at f2
      obtain ⟨d, ed, od⟩ := dot_open (show DataW.trod enc Tryz.prog w 0 (fun _ => true) true n 54 [c0, c1] = some y0 from f0)
      obtain ⟨s, e1, hy1, _⟩ := DataW.trod_string Tryz.underlying9 (show DataW.trod enc Tryz.prog w 0 (fun _ => true) true n 9 [c2] = some y1 from f1)
      obtain ⟨b, e2, _, w2⟩ := DataW.trod_int Tryz.underlying2 (show DataW.trod enc Tryz.prog w 0 (fun _ => true) true n 2 [c3] = some y2 from f2)
      have hs : s.size ≤ Big := by
        have := Wt.field Tryz.underlying142 hw (i := 1) (d := y1.1) rfl rfl s.size (by rw [hy1]; simp [DataW.weights])
        unfold reachBytes at this; unfold Big; omega
      simp at ed e1 e2
      obtain ⟨rfl, rfl⟩ := ed
      subst e1; subst e2
      exact ⟨⟨d.dc, d.n, s, b⟩, rfl, od.dc, od.n, wf_i64 w2, hs⟩
theorem tree_open : ∀ (fuel : Nat) (cs : List Value) (x : DataW H × List MemPlace), DataW.trod enc Tryz.prog w 0 (fun _ => true) true fuel 27 cs = some x → Wt Tryz.prog 27 x.1 → ∃ t ve vk, cs = [ve, vk] ∧ Tr.rd w w.heap.size t ve vk := by
  intro fuel
  induction fuel using Nat.strongRecOn with
  | ind fuel ih =>
  intro cs x h hw
  obtain ⟨xs, n, rfl, rfl, hl, hx, hf⟩ := DataW.trod_struct Tryz.underlying27 h
  rw [cellsTree] at hl
  match cs, hl with
  | [c0, c1], _ =>
    match xs, hx with
    | [y0, y1], _ =>
      have f0 : DataW.trod enc Tryz.prog w 0 (fun _ => true) true n 24 (([c0, c1].drop 0).take (Tryz.prog.cellsOf 24)) = some y0 := hf 0 _ rfl
      rw [cellsOne.2.2.2.1] at f0
      have f1 : DataW.trod enc Tryz.prog w 0 (fun _ => true) true n 25 (([c0, c1].drop 1).take (Tryz.prog.cellsOf 25)) = some y1 := hf 1 _ rfl
      rw [cellsOne.2.2.2.2] at f1
      obtain ⟨v0, es, e0, h0⟩ := slc_open (E := EnE) Tryz.underlying24 cellsEntry (by decide) bytesEntry (by decide) (show DataW.trod enc Tryz.prog w 0 (fun _ => true) true n 24 [c0] = some y0 from f0) (Wt.field Tryz.underlying27 hw (i := 0) rfl rfl)
        (fun m cs y _ hy hwy => entry_open hy hwy)
      obtain ⟨v1, ks, e1, h1⟩ := slc_open (E := KdE w w.heap.size) Tryz.underlying25 cellsKid (by decide) bytesKid (by decide) (show DataW.trod enc Tryz.prog w 0 (fun _ => true) true n 25 [c1] = some y1 from f1) (Wt.field Tryz.underlying27 hw (i := 1) rfl rfl)
        (fun m cs y hm hy hwy => by
          obtain ⟨zs, k, rfl, rfl, hl, hz, hg⟩ := DataW.trod_struct Tryz.underlying155 hy
          rw [cellsKid] at hl
          match cs, hl with
          | [d0, d1, d2], _ =>
            match zs, hz with
            | [z0, z1], _ =>
              have g0 : DataW.trod enc Tryz.prog w 0 (fun _ => true) true k 9 (([d0, d1, d2].drop 0).take (Tryz.prog.cellsOf 9)) = some z0 := hg 0 _ rfl
              rw [cellsOne.1] at g0
              have g1 : DataW.trod enc Tryz.prog w 0 (fun _ => true) true k 27 (([d0, d1, d2].drop 1).take (Tryz.prog.cellsOf 27)) = some z1 := hg 1 _ rfl
              rw [cellsTree] at g1
              obtain ⟨s, u1, hy1, _⟩ := DataW.trod_string Tryz.underlying9 (show DataW.trod enc Tryz.prog w 0 (fun _ => true) true k 9 [d0] = some z0 from g0)
              obtain ⟨t, ve, vk, u2, ht⟩ := ih k (by omega) [d1, d2] z1 (show DataW.trod enc Tryz.prog w 0 (fun _ => true) true k 27 [d1, d2] = some z1 from g1) (Wt.field Tryz.underlying155 hwy (i := 1) rfl rfl)
              have hs : s.size ≤ Big := by
                have := Wt.field Tryz.underlying155 hwy (i := 0) (d := z0.1) rfl rfl s.size (by rw [hy1]; simp [DataW.weights])
                unfold reachBytes at this; unfold Big; omega
              simp at u1 u2
              obtain ⟨rfl, rfl⟩ := u2
              subst u1
              exact ⟨(s, t), d1, d2, rfl, hs, ht⟩)
      simp at e0 e1
      subst e0; subst e1
      exact ⟨.mk es ks, c0, c1, rfl, rd_iff.2 ⟨h0, h1⟩⟩

/-- Behind a call that turns nothing that was there, the arguments read as before. -/
theorem trodAll_below (hl : laidOutB Tryz.prog = true) {W' : World} : ∀ (ts : List TypeId) (vs : List Value) (ds : List (DataW H)) (ps : List MemPlace), (∀ t ∈ ts, Tryz.prog.readableRec t = true ∧ t < Tryz.prog.types.size) →
    DataW.TrodAll enc Tryz.prog w 0 (fun _ => true) true ts vs ds ps → Below w.heap.size w W' → (∀ x ∈ ps, x.block < w.heap.size) → DataW.TrodAll enc Tryz.prog W' 0 (fun b => decide (b < w.heap.size)) true ts vs ds ps
  | [], [], [], ps, _, h, _, _ => h
  | t :: ts, v :: vs, d :: ds, ps, hr, h, hb, hlt => by
    obtain ⟨p, q, h1, h2, rfl⟩ := h
    exact ⟨p, q, Below.trod hl (hr t (by simp)).1 (hr t (by simp)).2 h1 hb (fun x hx => hlt x (List.mem_append_left _ hx)), trodAll_below hl ts vs ds q (fun t ht => hr t (by simp [ht])) h2 hb (fun x hx => hlt x (List.mem_append_right _ hx)), rfl⟩
end
end Go.Proofs.YtmphgnjodangcaaGreat

namespace Go.Proofs.YtmphgnjodangcaaGreat
open Go.ChangeShapes Go.WideShapes Go.ChangeAt Go.RowKit
set_option maxRecDepth 100000

theorem own : ownKnob Tryz.prog.godebug = none := by kernel_rfl
theorem laidOut : laidOutB Tryz.prog = true := by kernel_rfl
theorem okTree : Tryz.prog.readableRec 27 = true ∧ 27 < Tryz.prog.types.size := ⟨by kernel_rfl, of_decide_eq_true (by kernel_rfl)⟩
theorem okDot : Tryz.prog.readableRec 54 = true ∧ 54 < Tryz.prog.types.size := ⟨by kernel_rfl, of_decide_eq_true (by kernel_rfl)⟩
theorem tree_arg {H : Type} {enc : TypeId × Value → H} {W : World} {base : Nat} {v : Value} {d : DataW H} {p : List MemPlace} (hv : Value.okWide Tryz.prog W .any base 27 v) (h : DataW.Trod enc Tryz.prog W 0 (fun _ => true) true 27 v d p) (hw : Wt Tryz.prog 27 d) :
    ∃ t ve vk, v = .agg #[ve, vk] ∧ Tr.rd W W.heap.size t ve vk := by
  obtain ⟨cs, rfl, hs⟩ := okWide_struct Tryz.underlying27 hv
  obtain ⟨fuel, hf⟩ := h
  obtain ⟨t, ve, vk, e, ht⟩ := tree_open fuel _ _ hf hw
  refine ⟨t, ve, vk, ?_, ht⟩
  simp [Value.cells] at e
  obtain ⟨l⟩ := cs
  simp at e
  rw [e]
theorem dot_arg {H : Type} {enc : TypeId × Value → H} {W : World} {base : Nat} {v : Value} {d : DataW H} {p : List MemPlace} (hv : Value.okWide Tryz.prog W .any base 54 v) (h : DataW.Trod enc Tryz.prog W 0 (fun _ => true) true 54 v d p) :
    ∃ x : Dt, v = .agg #[.int .i64 x.dc, .int .i64 x.n] ∧ x.Ok := by
  obtain ⟨cs, rfl, hs⟩ := okWide_struct Tryz.underlying54 hv
  obtain ⟨fuel, hf⟩ := h
  obtain ⟨x, e, ho⟩ := dot_open hf
  refine ⟨x, ?_, ho⟩
  simp [Value.cells] at e
  obtain ⟨l⟩ := cs
  simp at e
  rw [e]
end Go.Proofs.YtmphgnjodangcaaGreat

namespace Go.Proofs.YtmphgnjodangcaaGreat
open Go.ChangeShapes Go.WideShapes Go.ChangeAt Go.RowKit
set_option maxRecDepth 100000

end Go.Proofs.YtmphgnjodangcaaGreat

namespace Go.Proofs.YtmphgnjodangcaaGreat
open Go.ChangeShapes Go.WideShapes Go.ChangeAt Go.RowKit
set_option maxRecDepth 100000

section
variable {H : Type} {enc : TypeId × Value → H} {w : World}
end
end Go.Proofs.YtmphgnjodangcaaGreat

namespace Go.Proofs.YtmphgnjodangcaaGreat
open Go.ChangeShapes Go.WideShapes Go.ChangeAt Go.RowKit
set_option maxRecDepth 100000

theorem okStrings : Tryz.prog.readableRec 39 = true ∧ 39 < Tryz.prog.types.size := ⟨by kernel_rfl, of_decide_eq_true (by kernel_rfl)⟩
theorem bytesString : Tryz.prog.bytesOf 9 = 16 := by kernel_rfl
theorem str_open {H : Type} {enc : TypeId × Value → H} {w : World} {fuel : Nat} {cs : List Value} {x : DataW H × List MemPlace} (h : DataW.trod enc Tryz.prog w 0 (fun _ => true) true fuel 9 cs = some x) (hw : Wt Tryz.prog 9 x.1) : ∃ s : ByteArray, StE s cs := by
  obtain ⟨s, e, hy, _⟩ := DataW.trod_string Tryz.underlying9 h
  refine ⟨s, e, ?_⟩
  have := hw s.size (by rw [hy]; simp [DataW.weights])
  unfold reachBytes at this; unfold Big; omega
theorem strs_arg {H : Type} {enc : TypeId × Value → H} {W : World} {base : Nat} {v : Value} {d : DataW H} {p : List MemPlace} (hv : Value.okWide Tryz.prog W .any base 39 v) (h : DataW.Trod enc Tryz.prog W 0 (fun _ => true) true 39 v d p) (hw : Wt Tryz.prog 39 d) :
    ∃ l : List ByteArray, SlP W W.heap.size 1 StE v l := by
  obtain ⟨a, len, cap, rfl⟩ := okWide_slice Tryz.underlying39 hv
  obtain ⟨fuel, hf⟩ := h
  obtain ⟨v', l, e, hl⟩ := slc_open (E := StE) Tryz.underlying39 cellsOne.1 (by decide) bytesString (by decide) hf hw fun _ _ _ _ hy hwy => str_open hy hwy
  simp [Value.cells] at e
  subst e
  exact ⟨l, hl⟩
end Go.Proofs.YtmphgnjodangcaaGreat
